/- The program's texts. -/
import Derived.Test.YtmhdapjmndfkgaaGreatDoorSpO
namespace Go.Proofs.YtmhdapjmndfkgaaGreatDoor.Sp.B
open Go Go.Proofs.YtmhdapjmndfkgaaGreatDoor.Eng Go.Proofs.YtmhdapjmndfkgaaGreatDoor.Eng.V
set_option linter.unusedSimpArgs false
set_option linter.unusedVariables false
open Sp
open Sp.W (lt2 riseP sl xi_at wrap_succ wrap_nat wrap_pred)
set_option maxHeartbeats 8000000 in
set_option maxRecDepth 100000 in
theorem sM_loop (m : Ms) (ok : MsOk m) (L1 : List UInt8) (hL1 : L1 = lnF [tMsg, m.Name, tOpen] ++ barL m.Barred) (A9 : List (List AV)) (N k : Nat) (hm : m.Fields.length < k) : ∀ (s j : Nat) (mu : Bool) (y : AV), (s = 13 ∨ s = 32) →
    R_sprint_Message_0 dd Prim.powG N k [((1, 0), .var (eM m) false), ((3, 0), .var [.ptr (3, 0) 0, .asl (s, j) (L1.map Prim.byteE)] false), ((9, 0), .tail 3 1 false true), ((s, j), .tail L1.length (tz 1 5) mu false)] (.ptr (3, 0) 0) (.fsl (m.Fields.map Fld.cells)) (i64 m.Fields.length) (i64 0) (.ptr (1, 0) 0) (.asl (9, 0) A9) (.tup []) (.tup []) .undef .undef .undef y = some (st (bsL (msgL m))) := by
  have hlen := msgL_len m ok
  have h := loop_acc m.Fields (P := fun dn r k => ∀ (L : List UInt8) (s j : Nat) (mu : Bool) (y : AV), (s = 13 ∨ s = 32) → L = L1 ++ dn.flatMap fldL → R_sprint_Message_0 dd Prim.powG N k [((1, 0), .var (eM m) false), ((3, 0), .var [.ptr (3, 0) 0, .asl (s, j) (L.map Prim.byteE)] false), ((9, 0), .tail 3 1 false true), ((s, j), .tail L.length (tz 1 5) mu false)] (.ptr (3, 0) 0) (.fsl (m.Fields.map Fld.cells)) (i64 m.Fields.length) (i64 dn.length) (.ptr (1, 0) 0) (.asl (9, 0) A9) (.tup []) (.tup []) .undef .undef .undef y = some (st (bsL (msgL m)))) (by
    intro k L s j mu y hs hL
    have e0 : msgL m = L ++ lnF [tClose] := by rw [hL, hL1, msgL]
    have hl := d_lineX [tClose] (.ptr (1000001, 0) 0) (.inr (.inr rfl)) L (msgL m) _ _ rfl rfl e0 (by omega) (by simp)
    have hst := d_StringX (msgL m) (by rw [e0]; simp [lnF_ne]) (by omega)
    simp only [List.map_cons, List.map_nil] at hl
    rw [R_sprint_Message_0_s]
    rcases hs with rfl | rfl <;> simp [X, Y, Z, ba_toList, l_reach0, l_reach1, l_rch, lendIn, lendV, impT, impA, impL, imp1, XrB, lendOut, outB, expTR, expAR, expLR, exp1R, keepR, exp1, allKeys, Xl, lendR, lendKs, lendPs, lendSs, lendMk, lendCs, lendOk, lendSl, lendF, lendSet, inR, outR, ren1, live1, ptrs1, isAgg1, seqR, mapA, mapT, mapO, keys1, ad_b, hl, hst]) (by
    intro dn f r k he hi hx ih L s j mu y hs hL
    have e0 : msgL m = L ++ fldL f ++ (r.flatMap fldL ++ lnF [tClose]) := by rw [hL, hL1, msgL, he]; simp [List.flatMap_append, List.append_assoc]
    obtain ⟨L2, hL2⟩ : ∃ L2, L2 = L ++ fldL f := ⟨_, rfl⟩
    have hlen2 : L2.length ≤ 3400000 := by rw [e0, ← hL2, List.length_append] at hlen; omega
    have hl := d_lineX [tInd, oneB f, textF f] (.ptr (1000001, 0) 0) (.inr (.inr rfl)) L L2 _ _ rfl rfl hL2 (by omega) (by simp)
    simp only [List.map_cons, List.map_nil] at hl
    rw [List.length_append, List.length_cons, List.length_nil] at ih
    push_cast at ih
    have fin := fun j mu y => ih L2 32 j mu y (.inr rfl) (by rw [hL2, hL]; simp [List.flatMap_append, List.append_assoc])
    have hvl := ok.fl
    have hv := ok.fd f (mem_at hx)
    have ht := d_fText f (by omega) (by omega)
    have z1 : (⟨#[111, 110, 101, 111, 102, 32]⟩ : ByteArray).size = 6 := rfl
    have z2 : (⟨#[32]⟩ : ByteArray).size = 1 := rfl
    have q1 : (⟨#[111, 110, 101, 111, 102, 32]⟩ : ByteArray).size + f.One.size ≤ 9223372036854775807 := by omega
    have q2 : (⟨#[111, 110, 101, 111, 102, 32]⟩ : ByteArray).size + f.One.size + (⟨#[32]⟩ : ByteArray).size ≤ 9223372036854775807 := by omega
    rw [R_sprint_Message_0_s]
    cases h1 : decide (f.One = noS)
    · have e1 : oneB f = ⟨#[111, 110, 101, 111, 102, 32]⟩ ++ f.One ++ ⟨#[32]⟩ := by unfold oneB; rw [h1]; rfl
      rw [e1] at hl
      rcases hs with rfl | rfl <;> simp [X, Y, Z, ba_toList, l_reach0, l_reach1, l_rch, lendIn, lendV, impT, impA, impL, imp1, XrB, lendOut, outB, expTR, expAR, expLR, exp1R, keepR, exp1, allKeys, Xl, lendR, lendKs, lendPs, lendSs, lendMk, lendCs, lendOk, lendSl, lendF, lendSet, inR, outR, ren1, live1, ptrs1, isAgg1, seqR, mapA, mapT, mapO, keys1, ad_b, hl, ht, h1, q1, q2, hi, xi_at hx, k_sprint_Message_0, J_sprint_Message_0, inK, wrap_succ (show dn.length < 4611686018427387904 by omega)] <;> exact fin _ _ _
    · have e1 : oneB f = ⟨#[]⟩ := by unfold oneB; rw [h1]; rfl
      rw [e1] at hl
      rcases hs with rfl | rfl <;> simp [X, Y, Z, ba_toList, l_reach0, l_reach1, l_rch, lendIn, lendV, impT, impA, impL, imp1, XrB, lendOut, outB, expTR, expAR, expLR, exp1R, keepR, exp1, allKeys, Xl, lendR, lendKs, lendPs, lendSs, lendMk, lendCs, lendOk, lendSl, lendF, lendSet, inR, outR, ren1, live1, ptrs1, isAgg1, seqR, mapA, mapT, mapO, keys1, ad_b, hl, ht, h1, hi, xi_at hx, k_sprint_Message_0, J_sprint_Message_0, inK, wrap_succ (show dn.length < 4611686018427387904 by omega)] <;> exact fin _ _ _) k hm
  intro s j mu y hs
  exact h L1 s j mu y hs (by simp)
set_option maxHeartbeats 4000000 in
set_option maxRecDepth 100000 in
theorem d_sMsg (m : Ms) (ok : MsOk m) : dd i_sprint_Message [aM m] = some (st (bsL (msgL m))) := by
  refine D_runE (V := v_sprint_Message) (m.Fields.length + 1) rfl rfl rfl ?_
  rw [s_sprint_Message]
  have hn := ok.nm
  obtain ⟨L1, hL1⟩ : ∃ L1, L1 = lnF [tMsg, m.Name, tOpen] := ⟨_, rfl⟩
  have hll : L1.length ≤ 5000 := by
    rw [hL1, lnF_len]
    have : tMsg.size = 8 := rfl
    have : tOpen.size = 2 := rfl
    simp only [List.map_cons, List.map_nil, List.sum_cons, List.sum_nil]
    omega
  obtain ⟨L2, hL2⟩ : ∃ L2, L2 = L1 ++ barL m.Barred := ⟨_, rfl⟩
  have hl2 : L2.length ≤ 100000 := by
    have := barL_len m.Barred ok.bl
    rw [hL2, List.length_append]
    omega
  have hl := d_lineX [tMsg, m.Name, tOpen] (.bnil 82) (.inr (.inl rfl)) [] L1 [] _ rfl rfl hL1 (by omega) (by simp)
  have hb := d_pBarred m.Barred ok.bl L1 L2 hL2 (by omega)
  simp only [List.map_cons, List.map_nil] at hl
  simp [X, Y, Z, ba_toList, l_reach0, l_reach1, l_rch, lendIn, lendV, impT, impA, impL, imp1, XrB, lendOut, outB, expTR, expAR, expLR, exp1R, keepR, exp1, allKeys, Xl, lendR, lendKs, lendPs, lendSs, lendMk, lendCs, lendOk, lendSl, lendF, lendSet, inR, outR, ren1, live1, ptrs1, isAgg1, seqR, mapA, mapT, mapO, keys1, ad_b, hl, hb, k_sprint_Message_0, inK]
  exact sM_loop m ok L2 (by rw [hL2, hL1]) _ _ _ (by omega) 13 1 true .undef (.inl rfl)
end Go.Proofs.YtmhdapjmndfkgaaGreatDoor.Sp.B
