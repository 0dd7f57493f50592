/- The program's texts. -/
import Derived.Test.YtmhdapjmndfkgaaGreatDoorSpP
import Derived.Test.YtmhdapjmndfkgaaGreatDoorSpM
namespace Go.Proofs.YtmhdapjmndfkgaaGreatDoor.Sp.B
open Go Go.Proofs.YtmhdapjmndfkgaaGreatDoor.Eng Go.Proofs.YtmhdapjmndfkgaaGreatDoor.Eng.V
set_option linter.unusedSimpArgs false
set_option linter.unusedVariables false
open Sp
open Sp.W (lt2 riseP sl xi_at wrap_succ wrap_nat wrap_pred)
theorem d_WSX (a : AV) (ha : a = .bnil 80 ∨ a = .bnil 82 ∨ a = slf) (l l2 t : List UInt8) (E : List (List AV)) (hE : E = l.map Prim.byteE) (h2 : l2 = l ++ t) (h : l2.length ≤ 70368744177664) : dd i___strings_Builder__WriteString [.tup [.agg [a, .own (tz 1 5) true E]], .ptr (1000001, 0) 0, st (bsL t)] = some (.tup [i64 (bsL t).size, .v .nilIface, .agg [.ptr (1000001, 0) 0, .own (tz 1 5) true (l2.map Prim.byteE)]]) := by
  subst hE h2
  have := d_WS a ha l (bsL t) (by rw [bsL_size]; rw [List.length_append] at h; exact h)
  rw [bsL_data] at this
  exact this
abbrev tO (s : Sch) (a : AV) (q j : Nat) (mu : Bool) (L : List UInt8) : Objs := [((1, 0), .var [.fsl (s.Enums.map eE), .fsl (s.Messages.map eM)] false), ((3, 0), .var [a, .asl (q, j) (L.map Prim.byteE)] false), ((q, j), .tail L.length (tz 1 5) mu false)]
def aOk (a : AV) (L : List UInt8) : Prop := (a = .bnil 82 ∧ L = []) ∨ a = .ptr (3, 0) 0
set_option maxHeartbeats 8000000 in
set_option maxRecDepth 100000 in
theorem sT_loop1 (s : Sch) (h : SchTx s) (h0 : textL s ≠ []) (N k : Nat) (hm : s.Messages.length < k) (L1 : List UInt8) (hL1 : L1 = s.Enums.flatMap enumL) : ∀ (a : AV) (q j : Nat) (mu : Bool) (y1 y2 y3 y4 : AV), ((q = 3 ∧ j = 2) ∨ q = 21 ∨ q = 33) → aOk a L1 →
    R_sprint_Text_1 dd Prim.powG N k (tO s a q j mu L1) (.ptr (3, 0) 0) (.fsl (s.Messages.map eM)) (i64 s.Messages.length) (i64 0) (.ptr (1, 0) 0) y1 y2 y3 y4 = some (st (bsL (textL s))) := by
  have hlen := h.len
  have hml := h.ok.messages
  have key := loop_acc s.Messages (P := fun dn r k => ∀ (L : List UInt8) (a : AV) (q j : Nat) (mu : Bool) (y1 y2 y3 y4 : AV), ((q = 3 ∧ j = 2) ∨ q = 21 ∨ q = 33) → aOk a L → L = L1 ++ dn.flatMap msgL → R_sprint_Text_1 dd Prim.powG N k (tO s a q j mu L) (.ptr (3, 0) 0) (.fsl (s.Messages.map eM)) (i64 s.Messages.length) (i64 dn.length) (.ptr (1, 0) 0) y1 y2 y3 y4 = some (st (bsL (textL s)))) (by
    intro k L a q j mu y1 y2 y3 y4 hs ha hL
    have e0 : L = textL s := by rw [hL, hL1, textL]
    subst e0
    rcases ha with ⟨_, ha⟩ | rfl
    · exact absurd ha h0
    have hst := d_StringX (textL s) h0 (by omega)
    rw [R_sprint_Text_1_s]
    rcases hs with ⟨rfl, rfl⟩ | rfl | rfl <;> simp [X, Y, Z, ba_toList, l_reach0, l_reach1, l_rch, lendIn, lendV, impT, impA, impL, imp1, XrB, lendOut, outB, expTR, expAR, expLR, exp1R, keepR, exp1, allKeys, Xl, lendR, lendKs, lendPs, lendSs, lendMk, lendCs, lendOk, lendSl, lendF, lendSet, inR, outR, ren1, live1, ptrs1, isAgg1, seqR, mapA, mapT, mapO, keys1, ad_b, hst]) (by
    intro dn x r k he hi hx ih L a q j mu y1 y2 y3 y4 hs ha hL
    have e0 : textL s = L ++ msgL x ++ r.flatMap msgL := by rw [hL, hL1, textL, he]; simp [List.flatMap_append, List.append_assoc]
    obtain ⟨L2, hL2⟩ : ∃ L2, L2 = L ++ msgL x := ⟨_, rfl⟩
    have hlen2 : L2.length ≤ 5000000000 := by rw [e0, ← hL2, List.length_append] at hlen; omega
    have hd := d_sMsg x (h.ms x (mem_at hx))
    rw [List.length_append, List.length_cons, List.length_nil] at ih
    push_cast at ih
    have fin := fun j mu y1 y2 y3 y4 => ih L2 (.ptr (3, 0) 0) 33 j mu y1 y2 y3 y4 (.inr (.inr rfl)) (.inr rfl) (by rw [hL2, hL]; simp [List.flatMap_append, List.append_assoc])
    rw [R_sprint_Text_1_s]
    rcases ha with ⟨rfl, hLe⟩ | rfl
    · subst hLe
      have hw := d_WSX (.bnil 82) (.inr (.inl rfl)) [] L2 (msgL x) [] rfl hL2 (by omega)
      rcases hs with ⟨rfl, rfl⟩ | rfl | rfl <;> simp [X, Y, Z, ba_toList, l_reach0, l_reach1, l_rch, lendIn, lendV, impT, impA, impL, imp1, XrB, lendOut, outB, expTR, expAR, expLR, exp1R, keepR, exp1, allKeys, Xl, lendR, lendKs, lendPs, lendSs, lendMk, lendCs, lendOk, lendSl, lendF, lendSet, inR, outR, ren1, live1, ptrs1, isAgg1, seqR, mapA, mapT, mapO, keys1, ad_b, hd, hw, hi, xi_at hx, k_sprint_Text_1, inK, wrap_succ (show dn.length < 4611686018427387904 by omega)] <;> exact fin _ _ _ _ _ _
    · have hw := d_WSX (.ptr (1000001, 0) 0) (.inr (.inr rfl)) L L2 (msgL x) _ rfl hL2 (by omega)
      rcases hs with ⟨rfl, rfl⟩ | rfl | rfl <;> simp [X, Y, Z, ba_toList, l_reach0, l_reach1, l_rch, lendIn, lendV, impT, impA, impL, imp1, XrB, lendOut, outB, expTR, expAR, expLR, exp1R, keepR, exp1, allKeys, Xl, lendR, lendKs, lendPs, lendSs, lendMk, lendCs, lendOk, lendSl, lendF, lendSet, inR, outR, ren1, live1, ptrs1, isAgg1, seqR, mapA, mapT, mapO, keys1, ad_b, hd, hw, hi, xi_at hx, k_sprint_Text_1, inK, wrap_succ (show dn.length < 4611686018427387904 by omega)] <;> exact fin _ _ _ _ _ _) k hm
  intro a q j mu y1 y2 y3 y4 hs ha
  exact key L1 a q j mu y1 y2 y3 y4 hs ha (by simp)
set_option maxHeartbeats 8000000 in
set_option maxRecDepth 100000 in
theorem sT_loop0 (s : Sch) (h : SchTx s) (h0 : textL s ≠ []) (N k : Nat) (hN : s.Messages.length < N) (hm : s.Enums.length < k) : ∀ (a : AV) (q j : Nat) (mu : Bool) (y1 y2 y3 y4 : AV), ((q = 3 ∧ j = 2) ∨ q = 21 ∨ q = 33) → aOk a [] →
    R_sprint_Text_0 dd Prim.powG N k (tO s a q j mu []) (.ptr (3, 0) 0) (.fsl (s.Enums.map eE)) (.ptr (1, 0) 0) (i64 s.Enums.length) (i64 0) y1 y2 y3 y4 = some (st (bsL (textL s))) := by
  have hlen := h.len
  have hml := h.ok.enums
  have key := loop_acc s.Enums (P := fun dn r k => ∀ (L : List UInt8) (a : AV) (q j : Nat) (mu : Bool) (y1 y2 y3 y4 : AV), ((q = 3 ∧ j = 2) ∨ q = 21 ∨ q = 33) → aOk a L → L = dn.flatMap enumL → R_sprint_Text_0 dd Prim.powG N k (tO s a q j mu L) (.ptr (3, 0) 0) (.fsl (s.Enums.map eE)) (.ptr (1, 0) 0) (i64 s.Enums.length) (i64 dn.length) y1 y2 y3 y4 = some (st (bsL (textL s)))) (by
    intro k L a q j mu y1 y2 y3 y4 hs ha hL
    have fin := fun y1 y2 y3 y4 => sT_loop1 s h h0 N N hN L hL a q j mu y1 y2 y3 y4 hs ha
    rw [R_sprint_Text_0_s]
    rcases ha with ⟨rfl, rfl⟩ | rfl <;> rcases hs with ⟨rfl, rfl⟩ | rfl | rfl <;> simp [X, Y, Z, ba_toList, l_reach0, l_reach1, l_rch, lendIn, lendV, impT, impA, impL, imp1, XrB, lendOut, outB, expTR, expAR, expLR, exp1R, keepR, exp1, allKeys, Xl, lendR, lendKs, lendPs, lendSs, lendMk, lendCs, lendOk, lendSl, lendF, lendSet, inR, outR, ren1, live1, ptrs1, isAgg1, seqR, mapA, mapT, mapO, keys1, ad_b, k_sprint_Text_1, inK] <;> exact fin _ _ _ _) (by
    intro dn x r k he hi hx ih L a q j mu y1 y2 y3 y4 hs ha hL
    have e0 : textL s = L ++ enumL x ++ (r.flatMap enumL ++ s.Messages.flatMap msgL) := by rw [hL, textL, he]; simp [List.flatMap_append, List.append_assoc]
    obtain ⟨L2, hL2⟩ : ∃ L2, L2 = L ++ enumL x := ⟨_, rfl⟩
    have hlen2 : L2.length ≤ 5000000000 := by rw [e0, ← hL2, List.length_append] at hlen; omega
    have hd := d_sEnum x (h.en x (mem_at hx))
    rw [List.length_append, List.length_cons, List.length_nil] at ih
    push_cast at ih
    have fin := fun j mu y1 y2 y3 y4 => ih L2 (.ptr (3, 0) 0) 21 j mu y1 y2 y3 y4 (.inr (.inl rfl)) (.inr rfl) (by rw [hL2, hL]; simp [List.flatMap_append, List.append_assoc])
    rw [R_sprint_Text_0_s]
    rcases ha with ⟨rfl, hLe⟩ | rfl
    · subst hLe
      have hw := d_WSX (.bnil 82) (.inr (.inl rfl)) [] L2 (enumL x) [] rfl hL2 (by omega)
      rcases hs with ⟨rfl, rfl⟩ | rfl | rfl <;> simp [X, Y, Z, ba_toList, l_reach0, l_reach1, l_rch, lendIn, lendV, impT, impA, impL, imp1, XrB, lendOut, outB, expTR, expAR, expLR, exp1R, keepR, exp1, allKeys, Xl, lendR, lendKs, lendPs, lendSs, lendMk, lendCs, lendOk, lendSl, lendF, lendSet, inR, outR, ren1, live1, ptrs1, isAgg1, seqR, mapA, mapT, mapO, keys1, ad_b, hd, hw, hi, xi_at hx, k_sprint_Text_0, inK, wrap_succ (show dn.length < 4611686018427387904 by omega)] <;> exact fin _ _ _ _ _ _
    · have hw := d_WSX (.ptr (1000001, 0) 0) (.inr (.inr rfl)) L L2 (enumL x) _ rfl hL2 (by omega)
      rcases hs with ⟨rfl, rfl⟩ | rfl | rfl <;> simp [X, Y, Z, ba_toList, l_reach0, l_reach1, l_rch, lendIn, lendV, impT, impA, impL, imp1, XrB, lendOut, outB, expTR, expAR, expLR, exp1R, keepR, exp1, allKeys, Xl, lendR, lendKs, lendPs, lendSs, lendMk, lendCs, lendOk, lendSl, lendF, lendSet, inR, outR, ren1, live1, ptrs1, isAgg1, seqR, mapA, mapT, mapO, keys1, ad_b, hd, hw, hi, xi_at hx, k_sprint_Text_0, inK, wrap_succ (show dn.length < 4611686018427387904 by omega)] <;> exact fin _ _ _ _ _ _) k hm
  intro a q j mu y1 y2 y3 y4 hs ha
  exact key [] a q j mu y1 y2 y3 y4 hs ha (by simp)
set_option maxHeartbeats 4000000 in
theorem d_sText (s : Sch) (h : SchTx s) : dd i_sprint_Text [sch s] = some (st (textS s)) := by
  refine D_runE (V := v_sprint_Text) 1000 rfl rfl rfl ?_
  rw [s_sprint_Text]
  have hc := d_sCheck s h.ok
  rw [check15_eq] at hc
  unfold textS
  by_cases h0 : rCheckF s = 0
  · have hne := textL_ne s (good_of s h0)
    have h1 := sT_loop0 s h hne 1000 1000 (by have := h.ok.messages; omega) (by have := h.ok.enums; omega) (.bnil 82) 3 2 false .undef .undef .undef .undef (.inl ⟨rfl, rfl⟩) (.inl ⟨rfl, rfl⟩)
    rw [h0] at hc
    simp [X, Y, Z, ba_toList, l_reach0, l_reach1, l_rch, lendIn, lendV, impT, impA, impL, imp1, XrB, lendOut, outB, expTR, expAR, expLR, exp1R, keepR, exp1, allKeys, Xl, lendR, lendKs, lendPs, lendSs, lendMk, lendCs, lendOk, lendSl, lendF, lendSet, inR, outR, ren1, live1, ptrs1, isAgg1, seqR, mapA, mapT, mapO, keys1, ad_b, hc, h0, k_sprint_Text_0, inK]
    simp only [tO, List.map_nil, List.length_nil] at h1

    exact h1
  · simp [X, Y, Z, hc, h0]
end Go.Proofs.YtmhdapjmndfkgaaGreatDoor.Sp.B
