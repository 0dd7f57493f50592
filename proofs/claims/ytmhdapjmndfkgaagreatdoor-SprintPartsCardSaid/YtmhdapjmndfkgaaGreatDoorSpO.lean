/- The program's texts. -/
import Derived.Test.YtmhdapjmndfkgaaGreatDoorSpN
namespace Go.Proofs.YtmhdapjmndfkgaaGreatDoor.Sp.B
open Go Go.Proofs.YtmhdapjmndfkgaaGreatDoor.Eng Go.Proofs.YtmhdapjmndfkgaaGreatDoor.Eng.V
set_option linter.unusedSimpArgs false
set_option linter.unusedVariables false
open Sp
open Sp.W (lt2 riseP sl xi_at wrap_succ wrap_nat wrap_pred)
theorem d_JoinX (l : List Int) (h0 : l ≠ []) (h : l.length < 1000) : dd i_strings_Join [.fsl (l.map fun n => [st (dgt n)]), .v (.string ⟨#[44, 32]⟩)] = some (st (bsL (dJ l))) := D_prim (by
  have e : (l.map fun n => [st (dgt n)]) = (l.map dgt).map fun w => [AV.v (.string w)] := by rw [List.map_map]; rfl
  have hs := dJ_len l
  have hj := joinB_dJ l
  have hz : (Prim.joinB (l.map dgt) ⟨#[44, 32]⟩).size = (dJ l).length := by
    have : Prim.joinB (l.map dgt) ⟨#[44, 32]⟩ = bsL (dJ l) := hj
    rw [this, bsL_size]
  have hb : ¬ (l.map dgt = [] ∨ 70368744177664 < (l.map dgt).length ∨ 70368744177664 < (Prim.joinB (l.map dgt) ⟨#[44, 32]⟩).size) := by
    rw [hz, List.length_map]
    rintro (h | h | h)
    · exact h0 (List.map_eq_nil_iff.1 h)
    · omega
    · omega
  show (Prim.strsOf (l.map fun n => [st (dgt n)])).bind _ = _
  rw [e, Prim.strsOf_map, Option.bind_some, if_neg hb]
  exact congrArg (fun s => some (AV.v (.string s))) hj)
set_option maxHeartbeats 4000000 in
set_option maxRecDepth 100000 in
theorem bar_loop (l : List Int) (hl : l.length < 1000) (h0 : l ≠ []) (L L2 : List UInt8) (hL : L2 = L ++ lnF [tInd, tRes, Prim.joinB (l.map dgt) tComma, tSemi]) (hb : L2.length ≤ 70368744177664) (ls : List AV) (hls : ls = [.agg [.ptr (1000001, 0) 0, .own (tz 1 5) true (L.map Prim.byteE)]]) (N m : Nat) (hm : l.length < m) :
    R___sprint_page__barred_0 dd Prim.powG ls N m [((1000001, 0), .var [.ptr (1000001, 0) 0, .asl (1000000, 1) (L.map Prim.byteE)] false), ((1000000, 1), .tail L.length (tz 1 5) true false), ((4, 0), .tail 0 1 false false)] (.fsl (l.map eI)) (.ptr (1000001, 0) 0) (i64 l.length) (i64 0) (.asl (4, 0) []) .undef .undef = some (.tup [.agg [.ptr (1000001, 0) 0, .own (tz 1 5) true (L2.map Prim.byteE)]]) := by
  have h := loop_acc l (P := fun dn r m => ∀ (mu : Bool), R___sprint_page__barred_0 dd Prim.powG ls N m [((1000001, 0), .var [.ptr (1000001, 0) 0, .asl (1000000, 1) (L.map Prim.byteE)] false), ((1000000, 1), .tail L.length (tz 1 5) true false), ((4, 0), .tail dn.length 1 mu false)] (.fsl (l.map eI)) (.ptr (1000001, 0) 0) (i64 l.length) (i64 dn.length) (.asl (4, 0) (dn.map fun n => [st (dgt n)])) .undef .undef = some (.tup [.agg [.ptr (1000001, 0) 0, .own (tz 1 5) true (L2.map Prim.byteE)]])) (by
    intro m mu
    have hj := d_JoinX l h0 hl
    rw [joinB_dJ] at hL
    have hln := d_lineX [tInd, tRes, bsL (dJ l), tSemi] (.ptr (1000001, 0) 0) (.inr (.inr rfl)) L L2 _ _ rfl rfl hL (by omega) (by simp)
    simp only [List.map_cons, List.map_nil] at hln
    rw [R___sprint_page__barred_0_s]
    subst hls
    simp [X, Y, Z, ba_toList, l_reach0, l_reach1, l_rch, lendIn, lendV, impT, impA, impL, imp1, XrB, lendOut, outB, expTR, expAR, expLR, exp1R, keepR, exp1, allKeys, Xl, lendR, lendKs, lendPs, lendSs, lendMk, lendCs, lendOk, lendSl, lendF, lendSet, inR, outR, ren1, live1, ptrs1, isAgg1, seqR, mapA, mapT, mapO, keys1, ad_b, hj, hln]) (by
    intro dn n r m he hi hx ih mu
    rw [List.length_append, List.length_cons, List.length_nil, List.map_append] at ih
    push_cast at ih
    have fin := fun mu => ih mu
    rw [R___sprint_page__barred_0_s]
    simp [X, Y, Z, ba_toList, l_reach0, l_reach1, l_rch, lendIn, lendV, impT, impA, impL, imp1, XrB, lendOut, outB, expTR, expAR, expLR, exp1R, keepR, exp1, allKeys, Xl, lendR, lendKs, lendPs, lendSs, lendMk, lendCs, lendOk, lendSl, lendF, lendSet, inR, outR, ren1, live1, ptrs1, isAgg1, seqR, mapA, mapT, mapO, keys1, ad_b, d_sDigits, hi, xi_at hx, k___sprint_page__barred_0, inK, show (dn.length + 1) * 16 ≤ 70368744177664 by omega, wrap_succ (show dn.length < 4611686018427387904 by omega)]
    exact fin _) m hm
  exact h false
set_option maxHeartbeats 4000000 in
set_option maxRecDepth 100000 in
theorem d_pBarred (l : List Int) (hl : l.length < 1000) (L L2 : List UInt8) (hL : L2 = L ++ barL l) (hb : L2.length ≤ 70368744177664) : dd i___sprint_page__barred [.tup [.agg [.ptr (1000001, 0) 0, .own (tz 1 5) true (L.map Prim.byteE)]], .ptr (1000001, 0) 0, .fsl (l.map eI)] = some (.tup [.agg [.ptr (1000001, 0) 0, .own (tz 1 5) true (L2.map Prim.byteE)]]) := by
  refine D_runBE (V := v___sprint_page__barred) (l.length + 1) rfl rfl rfl ?_
  rw [s___sprint_page__barred]
  by_cases h0 : l = []
  · subst h0
    have e : L2 = L := by rw [hL, barL, if_pos rfl, List.append_nil]
    subst e
    simp [X, Y, Z, ba_toList, l_reach0, l_reach1, l_rch, lendIn, lendV, impT, impA, impL, imp1, XrB, lendOut, outB, expTR, expAR, expLR, exp1R, keepR, exp1, allKeys, Xl, lendR, lendKs, lendPs, lendSs, lendMk, lendCs, lendOk, lendSl, lendF, lendSet, inR, outR, ren1, live1, ptrs1, isAgg1, seqR, mapA, mapT, mapO, keys1]
  · have hp : ¬ ((l.length : Int) = 0) := by have := List.length_pos_iff.2 h0; omega
    simp [X, Y, Z, ba_toList, l_reach0, l_reach1, l_rch, lendIn, lendV, impT, impA, impL, imp1, XrB, lendOut, outB, expTR, expAR, expLR, exp1R, keepR, exp1, allKeys, Xl, lendR, lendKs, lendPs, lendSs, lendMk, lendCs, lendOk, lendSl, lendF, lendSet, inR, outR, ren1, live1, ptrs1, isAgg1, seqR, mapA, mapT, mapO, keys1, ad_b, h0, k___sprint_page__barred_0, inK]
    have hL' : L2 = L ++ lnF [tInd, tRes, Prim.joinB (l.map dgt) tComma, tSemi] := by rw [hL, barL, if_neg h0]
    exact bar_loop l hl h0 L L2 hL' hb _ rfl _ _ (by omega)
end Go.Proofs.YtmhdapjmndfkgaaGreatDoor.Sp.B
