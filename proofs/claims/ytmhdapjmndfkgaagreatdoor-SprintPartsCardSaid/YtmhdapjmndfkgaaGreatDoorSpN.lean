/- The program's texts. -/
import Derived.Test.YtmhdapjmndfkgaaGreatDoorSpK
namespace Go.Proofs.YtmhdapjmndfkgaaGreatDoor.Sp.B
open Go Go.Proofs.YtmhdapjmndfkgaaGreatDoor.Eng Go.Proofs.YtmhdapjmndfkgaaGreatDoor.Eng.V
set_option linter.unusedSimpArgs false
set_option linter.unusedVariables false
open Sp
open Sp.W (lt2 riseP sl xi_at wrap_succ wrap_nat wrap_pred)
theorem ad_b {d j : Nat} {T : TypeId} {l : List AV} {i : Sz} {z : List Sz} : adopt d j (.bnil T :: l) (i :: z) = (.bnil T :: (adopt d (j + 1) l z).1, (adopt d (j + 1) l z).2) := rfl
theorem d_lineX (ws : List ByteArray) (a : AV) (ha : okA a) (l l2 : List UInt8) (E es : List (List AV)) (hE : E = l.map Prim.byteE) (hes : es = ws.map fun w => [st w]) (h2 : l2 = l ++ lnF ws) (hb : l2.length ≤ 70368744177664) (hw : ws.length < 1000000) :
    dd i___sprint_page__line [.tup [.agg [a, .own (tz 1 5) true E]], .ptr (1000001, 0) 0, .fsl es] = some (.tup [.agg [.ptr (1000001, 0) 0, .own (tz 1 5) true (l2.map Prim.byteE)]]) := by
  subst hE hes h2
  rw [List.length_append] at hb
  have h := d_line ws a ha l (by unfold lnF at hb; rw [List.length_append, List.length_cons, List.length_nil] at hb; omega) hw
  rw [List.append_assoc] at h
  exact h
theorem d_StringX (l : List UInt8) (h0 : l ≠ []) (h : l.length ≤ 70368744177664) : dd i___strings_Builder__String [.tup [.agg [.ptr (1000001, 0) 0, .own (tz 1 5) true (l.map Prim.byteE)]], .ptr (1000001, 0) 0] = some (.tup [st (bsL l), .agg [.undef, .undef]]) := d_String l h0 h
theorem lnF_ne (ws : List ByteArray) : lnF ws ≠ [] := by unfold lnF; simp
set_option maxHeartbeats 4000000 in
set_option maxRecDepth 100000 in
theorem sE_loop (e : En) (ok : EnOk e) (L1 : List UInt8) (hL1 : L1 = lnF [tEnum, e.Name, tOpen]) (A8 : List (List AV)) (N m : Nat) (hm : e.Values.length < m) : ∀ (s j : Nat) (mu : Bool) (y : AV), (s = 9 ∨ s = 23) →
    R_sprint_Enum_0 dd Prim.powG N m [((1, 0), .var (eE e) false), ((3, 0), .var [.ptr (3, 0) 0, .asl (s, j) (L1.map Prim.byteE)] false), ((8, 0), .tail 3 1 false true), ((s, j), .tail L1.length (tz 1 5) mu false)] (.ptr (3, 0) 0) (.fsl (e.Values.map eV)) (i64 e.Values.length) (i64 0) (.ptr (1, 0) 0) (.asl (8, 0) A8) (.tup []) .undef .undef .undef y = some (st (bsL (enumL e))) := by
  have hlen := enumL_len e ok
  have h := loop_acc e.Values (P := fun dn r m => ∀ (L : List UInt8) (s j : Nat) (mu : Bool) (y : AV), (s = 9 ∨ s = 23) → L = L1 ++ dn.flatMap vlnL → R_sprint_Enum_0 dd Prim.powG N m [((1, 0), .var (eE e) false), ((3, 0), .var [.ptr (3, 0) 0, .asl (s, j) (L.map Prim.byteE)] false), ((8, 0), .tail 3 1 false true), ((s, j), .tail L.length (tz 1 5) mu false)] (.ptr (3, 0) 0) (.fsl (e.Values.map eV)) (i64 e.Values.length) (i64 dn.length) (.ptr (1, 0) 0) (.asl (8, 0) A8) (.tup []) .undef .undef .undef y = some (st (bsL (enumL e)))) (by
    intro m L s j mu y hs hL
    have e0 : enumL e = L ++ lnF [tClose] := by rw [hL, hL1, enumL]
    have hl := d_lineX [tClose] (.ptr (1000001, 0) 0) (.inr (.inr rfl)) L (enumL e) _ _ rfl rfl e0 (by omega) (by simp)
    have hst := d_StringX (enumL e) (by rw [e0]; simp [lnF_ne]) (by omega)
    simp only [List.map_cons, List.map_nil] at hl
    rw [R_sprint_Enum_0_s]
    rcases hs with rfl | rfl <;> simp [X, Y, Z, ba_toList, l_reach0, l_reach1, l_rch, lendIn, lendV, impT, impA, impL, imp1, XrB, lendOut, outB, expTR, expAR, expLR, exp1R, keepR, exp1, allKeys, Xl, lendR, lendKs, lendPs, lendSs, lendMk, lendCs, lendOk, lendSl, lendF, lendSet, inR, outR, ren1, live1, ptrs1, isAgg1, seqR, mapA, mapT, mapO, keys1, ad_b, hl, hst]) (by
    intro dn v r m he hi hx ih L s j mu y hs hL
    have e0 : enumL e = L ++ vlnL v ++ (r.flatMap vlnL ++ lnF [tClose]) := by rw [hL, hL1, enumL, he]; simp [List.flatMap_append, List.append_assoc]
    obtain ⟨L2, hL2⟩ : ∃ L2, L2 = L ++ vlnL v := ⟨_, rfl⟩
    have hlen2 : L2.length ≤ 1200000 := by rw [e0, ← hL2, List.length_append] at hlen; omega
    have hl := d_lineX [tInd, v.Name, tEq, dgt v.Num, tSemi] (.ptr (1000001, 0) 0) (.inr (.inr rfl)) L L2 _ _ rfl rfl hL2 (by omega) (by simp)
    simp only [List.map_cons, List.map_nil] at hl
    rw [List.length_append, List.length_cons, List.length_nil] at ih
    push_cast at ih
    have fin := fun j mu y => ih L2 23 j mu y (.inr rfl) (by rw [hL2, hL]; simp [List.flatMap_append, List.append_assoc])
    have hvl := ok.vl
    rw [R_sprint_Enum_0_s]
    rcases hs with rfl | rfl <;> simp [X, Y, Z, ba_toList, l_reach0, l_reach1, l_rch, lendIn, lendV, impT, impA, impL, imp1, XrB, lendOut, outB, expTR, expAR, expLR, exp1R, keepR, exp1, allKeys, Xl, lendR, lendKs, lendPs, lendSs, lendMk, lendCs, lendOk, lendSl, lendF, lendSet, inR, outR, ren1, live1, ptrs1, isAgg1, seqR, mapA, mapT, mapO, keys1, ad_b, hl, d_sDigits, hi, xi_at hx, k_sprint_Enum_0, inK, wrap_succ (show dn.length < 4611686018427387904 by omega)] <;> exact fin _ _ _) m hm
  intro s j mu y hs
  exact h L1 s j mu y hs (by simp)
set_option maxHeartbeats 4000000 in
set_option maxRecDepth 100000 in
theorem d_sEnum (e : En) (ok : EnOk e) : dd i_sprint_Enum [aE e] = some (st (bsL (enumL e))) := by
  refine D_runE (V := v_sprint_Enum) (e.Values.length + 1) rfl rfl rfl ?_
  rw [s_sprint_Enum]
  have hn := ok.nm
  obtain ⟨L1, hL1⟩ : ∃ L1, L1 = lnF [tEnum, e.Name, tOpen] := ⟨_, rfl⟩
  have hll : L1.length ≤ 5000 := by
    rw [hL1, lnF_len]
    have : tEnum.size = 5 := rfl
    have : tOpen.size = 2 := rfl
    simp only [List.map_cons, List.map_nil, List.sum_cons, List.sum_nil]
    omega
  have hl := d_lineX [tEnum, e.Name, tOpen] (.bnil 82) (.inr (.inl rfl)) [] L1 [] _ rfl rfl hL1 (by omega) (by simp)
  simp only [List.map_cons, List.map_nil] at hl
  simp [X, Y, Z, ba_toList, l_reach0, l_reach1, l_rch, lendIn, lendV, impT, impA, impL, imp1, XrB, lendOut, outB, expTR, expAR, expLR, exp1R, keepR, exp1, allKeys, Xl, lendR, lendKs, lendPs, lendSs, lendMk, lendCs, lendOk, lendSl, lendF, lendSet, inR, outR, ren1, live1, ptrs1, isAgg1, seqR, mapA, mapT, mapO, keys1, ad_b, hl, k_sprint_Enum_0, inK]
  exact sE_loop e ok L1 hL1 _ _ _ (by omega) 9 1 true .undef (.inl rfl)
end Go.Proofs.YtmhdapjmndfkgaaGreatDoor.Sp.B
