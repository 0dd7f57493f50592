/- Texts tell schemas apart. -/
import Derived.Test.YtmhdapjmndfkgaaGreatDoorSpL
namespace Go.Proofs.YtmhdapjmndfkgaaGreatDoor.Sp.B
open Go Go.Proofs.YtmhdapjmndfkgaaGreatDoor.Eng Go.Proofs.YtmhdapjmndfkgaaGreatDoor.Eng.V
set_option linter.unusedSimpArgs false
set_option linter.unusedVariables false
open Sp
open Sp.W (lt2 riseP sl xi_at wrap_succ wrap_nat wrap_pred)
abbrev resW : List UInt8 := [114, 101, 115, 101, 114, 118, 101, 100]
def isRes (l : List UInt8) : Prop := ∃ r, l ++ [32] = 32 :: 32 :: (resW ++ 32 :: r)
theorem brL_res (b : List Int) : ∀ x ∈ brL b, isRes x := by
  intro x hx
  unfold brL at hx
  split at hx
  · cases hx
  · rw [List.mem_singleton] at hx
    subst hx
    exact ⟨dJ b ++ [59] ++ [32], by simp [cat, tInd, tRes, tSemi, bsL_data]⟩
theorem res_word : wordsL.any (fun w => decide (w = bsL resW)) = true := by decide +kernel
theorem ty_res (f : Fld) (h : FOk f) : (tyB f).data.toList ≠ resW := by
  intro e
  have e2 : tyB f = bsL resW := ba_eq (by rw [e, bsL_data])
  unfold tyB at e2
  rcases h.ref with ⟨_, h2⟩ | ⟨t1, t2, h2⟩
  · rw [decide_eq_false (right_big _ h2).2.1] at e2
    have h3 := (right_big _ h2).2.2
    rw [List.all_eq_not_any_not] at h3
    simp only [Bool.not_not] at h3
    rw [show f.Ref = bsL resW from e2, res_word] at h3
    cases h3
  · rw [decide_eq_true h2] at e2
    have e3 : (wordT f.Ty).data.toList = resW := by rw [show wordT f.Ty = bsL resW from e2, bsL_data]
    have h4 := h.ty
    have : f.Ty = 1 ∨ f.Ty = 2 ∨ f.Ty = 3 ∨ f.Ty = 4 ∨ f.Ty = 5 ∨ f.Ty = 6 ∨ f.Ty = 7 ∨ f.Ty = 8 ∨ f.Ty = 9 ∨ f.Ty = 10 ∨ f.Ty = 11 ∨ f.Ty = 12 ∨ f.Ty = 13 := by omega
    rcases this with h | h | h | h | h | h | h | h | h | h | h | h | h <;> rw [h] at e3 <;> exact absurd e3 (by decide)
theorem fline_res (f : Fld) (h : rcheckF f = 0) : ¬ isRes (fline f) := by
  rintro ⟨r, hr⟩
  have ok := fok_of f h
  rw [fline_fw f h] at hr
  simp only [List.cons.injEq, true_and] at hr
  have hno := fw_no f ok 32 (.inl rfl)
  have key : ∀ (w : List UInt8) (ws : List (List UInt8)), fw f = w :: ws → w = resW := fun w ws e => by
    rw [e] at hr hno
    simp only [List.flatMap_cons, List.append_assoc, List.singleton_append] at hr
    exact (cut_eq hr (hno w List.mem_cons_self) (by decide)).1
  have ht := ty_res f ok
  unfold fw oneW ahW at key
  by_cases o1 : f.One = noS
  · rw [decide_eq_true o1] at key
    cases l1 : f.Loose <;> cases r1 : f.Rep <;> rw [l1, r1] at key
    · exact ht (key _ _ rfl)
    · exact absurd (key _ _ rfl) (by decide)
    · exact absurd (key _ _ rfl) (by decide)
    · exact absurd (key _ _ rfl) (by decide)
  · rw [decide_eq_false o1] at key
    exact absurd (key _ _ rfl) (by decide)
theorem dJ_pieces (n : Int) : ∀ r : List Int, dJ (n :: r) ++ [44] = ((dgt n).data.toList :: r.map fun k => 32 :: (dgt k).data.toList).flatMap (fun w => w ++ [44]) := by
  have key : ∀ (r : List Int), Lib.joinTail tComma.data.toList (r.map fun n => (dgt n).data.toList) ++ [44] = 44 :: (r.map fun k => 32 :: (dgt k).data.toList).flatMap (fun w => w ++ [44]) := by
    intro r
    induction r with
    | nil => rfl
    | cons k r ih =>
      simp only [Lib.joinTail, List.map_cons, List.flatten_cons, List.flatMap_cons, List.append_assoc] at ih ⊢
      rw [ih]
      simp [tComma]
  intro r
  unfold dJ
  rw [List.map_cons, Lib.join_cons, List.append_assoc, key r]
  simp
theorem dJ_inj (a b : List Int) (ha : ∀ n ∈ a, 1 ≤ n ∧ n ≤ 536870911) (hb : ∀ n ∈ b, 1 ≤ n ∧ n ≤ 536870911) (ha0 : a ≠ []) (hb0 : b ≠ []) (h : dJ a = dJ b) : a = b := by
  cases a with
  | nil => exact absurd rfl ha0
  | cons x r =>
    cases b with
    | nil => exact absurd rfl hb0
    | cons y q =>
      have h1 : dJ (x :: r) ++ [44] = dJ (y :: q) ++ [44] := by rw [h]
      rw [dJ_pieces, dJ_pieces] at h1
      have no : ∀ (z : Int) (s : List Int), ∀ w ∈ ((dgt z).data.toList :: s.map fun k => 32 :: (dgt k).data.toList), (44 : UInt8) ∉ w := by
        intro z s w hw
        rcases List.mem_cons.1 hw with rfl | hw
        · exact dgt_no _ _ (.inl (by decide))
        · obtain ⟨k, _, rfl⟩ := List.mem_map.1 hw
          intro hm
          rcases List.mem_cons.1 hm with hm | hm
          · exact absurd hm (by decide)
          · exact dgt_no _ _ (.inl (by decide)) hm
      have h2 := pieces_eq 44 h1 (no x r) (no y q)
      simp only [List.cons.injEq] at h2
      have b1 := ha x List.mem_cons_self
      have b2 := hb y List.mem_cons_self
      have e1 := dgt_inj (by omega) (by omega) (by omega) (by omega) h2.1
      have e2 := map_inj_on _ h2.2 fun u hu v hv huv => by
        have c1 := ha u (List.mem_cons_of_mem _ hu)
        have c2 := hb v (List.mem_cons_of_mem _ hv)
        simp only [List.cons.injEq, true_and] at huv
        exact dgt_inj (by omega) (by omega) (by omega) (by omega) huv
      rw [e1, e2]
theorem brL_inj (a b : List Int) (ha : ∀ n ∈ a, 1 ≤ n ∧ n ≤ 536870911) (hb : ∀ n ∈ b, 1 ≤ n ∧ n ≤ 536870911) (h : brL a = brL b) : a = b := by
  unfold brL at h
  by_cases a0 : a = [] <;> by_cases b0 : b = []
  · rw [a0, b0]
  · rw [if_pos a0, if_neg b0] at h; cases h
  · rw [if_neg a0, if_pos b0] at h; cases h
  · rw [if_neg a0, if_neg b0] at h
    simp only [List.cons.injEq, and_true, cat_cons, cat_nil, List.append_nil, bsL_data] at h
    exact dJ_inj a b ha hb a0 b0 (List.append_cancel_right (List.append_cancel_left (List.append_cancel_left h)))
structure MGood (m : Ms) : Prop where
  nm : rrightF m.Name = true
  fd : ∀ f ∈ m.Fields, rcheckF f = 0
  bd : ∀ n ∈ m.Barred, 1 ≤ n ∧ n ≤ 536870911
open Classical in
theorem bM2_inj (m g : Ms) (hm : MGood m) (hg : MGood g) (hk : ∀ x ∈ m.Fields, ∀ y ∈ g.Fields, x.Ref = y.Ref → (x.Ty = 14 ∨ x.Ty = 15) → (y.Ty = 14 ∨ y.Ty = 15) → x.Ty = y.Ty) (h : bM2 m = bM2 g) : m = g := by
  unfold bM2 hdM at h
  simp only [Prod.mk.injEq, cat_cons, cat_nil, List.append_nil] at h
  have h1 := List.append_cancel_right (List.append_cancel_left h.1)
  obtain ⟨h2, h3⟩ := split_eq (fun l => decide (isRes l)) h.2 (fun x hx => decide_eq_true (brL_res _ x hx)) (fun x hx => by
    obtain ⟨f, hf, rfl⟩ := List.mem_map.1 hx
    exact decide_eq_false (fline_res f (hm.fd f hf))) (fun x hx => decide_eq_true (brL_res _ x hx)) (fun x hx => by
    obtain ⟨f, hf, rfl⟩ := List.mem_map.1 hx
    exact decide_eq_false (fline_res f (hg.fd f hf)))
  have h4 := brL_inj _ _ hm.bd hg.bd h2
  have h5 := map_inj_on fline h3 fun x hx y hy => fline_inj x y (hm.fd x hx) (hg.fd y hy) (hk x hx y hy)
  cases m; cases g
  simp only at h1 h4 h5
  subst h4 h5
  rw [show (_ : ByteArray) = _ from ByteArray.ext (Array.ext' h1)]
theorem close_no (l : List UInt8) (h : l ++ [32] = 32 :: (l ++ [32]).tail) : l ≠ [125] := by
  intro e
  subst e
  simp at h
theorem bM2_no (m : Ms) (hm : ∀ f ∈ m.Fields, rcheckF f = 0) : [125] ∉ (bM2 m).2 := by
  intro h
  rcases List.mem_append.1 h with h | h
  · obtain ⟨r, hr⟩ := brL_res _ _ h
    simp at hr
  · obtain ⟨f, hf, e⟩ := List.mem_map.1 h
    have := fline_fw f (hm f hf)
    rw [e] at this
    simp at this
theorem bE2_no (e : En) : [125] ∉ (bE2 e).2 := by
  intro h
  obtain ⟨v, _, e⟩ := List.mem_map.1 h
  simp [vline, cat, tInd] at e
theorem hd_no (a : ByteArray) (n : ByteArray) (hn : rrightF n = true) (ha : (10 : UInt8) ∉ a.data.toList) : 10 ∉ cat [a, n, tOpen] := by
  refine cat_no _ _ fun s hs => ?_
  simp only [List.mem_cons, List.not_mem_nil, or_false] at hs
  rcases hs with rfl | rfl | rfl
  · exact ha
  · exact right_no _ hn _ (.inl (by decide))
  · decide
theorem dJ_no : ∀ l : List Int, (10 : UInt8) ∉ dJ l := by
  intro l
  cases l with
  | nil => simp [dJ, Lib.join_nil]
  | cons n r =>
    intro hm
    have h1 : (10 : UInt8) ∈ dJ (n :: r) ++ [44] := List.mem_append_left _ hm
    rw [dJ_pieces, List.mem_flatMap] at h1
    obtain ⟨w, hw, h1⟩ := h1
    rcases List.mem_append.1 h1 with h1 | h1
    · rcases List.mem_cons.1 hw with rfl | hw
      · exact dgt_no _ _ (.inl (by decide)) h1
      · obtain ⟨k, _, rfl⟩ := List.mem_map.1 hw
        rcases List.mem_cons.1 h1 with h1 | h1
        · exact absurd h1 (by decide)
        · exact dgt_no _ _ (.inl (by decide)) h1
    · exact absurd h1 (by decide)
theorem mgood {s : Sch} (h : Good s) (m : Ms) (hm : m ∈ s.Messages) : MGood m := ⟨(h.ms m hm).1, (h.ms m hm).2.1, (h.ms m hm).2.2⟩
theorem lines_no (s : Sch) (h : Good s) : ∀ w ∈ (s.Enums.map bE2 ++ s.Messages.map bM2).flatMap blk, (10 : UInt8) ∉ w := by
  intro w hw
  obtain ⟨p, hp, hw⟩ := List.mem_flatMap.1 hw
  unfold blk at hw
  rcases List.mem_append.1 hp with hp | hp
  · obtain ⟨e, he, rfl⟩ := List.mem_map.1 hp
    have h1 := h.en e he
    rcases List.mem_cons.1 hw with rfl | hw
    · exact hd_no _ _ h1.1 (by decide)
    · rcases List.mem_append.1 hw with hw | hw
      · obtain ⟨v, hv, rfl⟩ := List.mem_map.1 hw
        exact vline_no v (h1.2 v hv).1
      · rw [List.mem_singleton] at hw
        subst hw
        decide
  · obtain ⟨m, hm, rfl⟩ := List.mem_map.1 hp
    have h1 := mgood h m hm
    rcases List.mem_cons.1 hw with rfl | hw
    · exact hd_no _ _ h1.nm (by decide)
    · rcases List.mem_append.1 hw with hw | hw
      · rcases List.mem_append.1 hw with hw | hw
        · unfold brL at hw
          split at hw
          · cases hw
          · rw [List.mem_singleton] at hw
            subst hw
            refine cat_no _ _ fun s hs => ?_
            simp only [List.mem_cons, List.not_mem_nil, or_false] at hs
            rcases hs with rfl | rfl | rfl | rfl
            · decide
            · decide
            · rw [bsL_data]; exact dJ_no _
            · decide
        · obtain ⟨f, hf, rfl⟩ := List.mem_map.1 hw
          exact fline_no f (h1.fd f hf)
      · rw [List.mem_singleton] at hw
        subst hw
        decide
/-- The text tells the schema. -/
theorem textL_inj (s t : Sch) (hs : Good s) (ht : Good t) (h : textL s = textL t) : s = t := by
  rw [textL_blk, textL_blk] at h
  have h1 := pieces_eq 10 h (lines_no s hs) (lines_no t ht)
  have nos : ∀ s : Sch, Good s → ∀ p ∈ s.Enums.map bE2 ++ s.Messages.map bM2, [125] ∉ p.2 := fun s hs p hp => by
    rcases List.mem_append.1 hp with hp | hp
    · obtain ⟨e, _, rfl⟩ := List.mem_map.1 hp
      exact bE2_no e
    · obtain ⟨m, hm, rfl⟩ := List.mem_map.1 hp
      exact bM2_no m (hs.ms m hm).2.1
  have h2 := blks_eq h1 (nos s hs) (nos t ht)
  have pe : ∀ s : Sch, ∀ p ∈ s.Enums.map bE2, (fun p : List UInt8 × List (List UInt8) => decide (p.1.head? = some 101)) p = true := fun s p hp => by
    obtain ⟨e, _, rfl⟩ := List.mem_map.1 hp
    simp [bE2, hdE, cat, tEnum]
  have pm : ∀ s : Sch, ∀ p ∈ s.Messages.map bM2, (fun p : List UInt8 × List (List UInt8) => decide (p.1.head? = some 101)) p = false := fun s p hp => by
    obtain ⟨e, _, rfl⟩ := List.mem_map.1 hp
    simp [bM2, hdM, cat, tMsg]
  obtain ⟨h3, h4⟩ := split_eq _ h2 (pe s) (pm s) (pe t) (pm t)
  have e1 := map_inj_on bE2 h3 fun e he g hg => bE2_inj e g (hs.en e he) (ht.en g hg)
  have hn : mNames s = mNames t := by
    have : s.Messages.map (fun m => (bM2 m).1) = t.Messages.map fun m => (bM2 m).1 := by
      have := congrArg (List.map Prod.fst) h4
      rw [List.map_map, List.map_map] at this
      exact this
    have h5 : (mNames s).map (fun n => cat [tMsg, n, tOpen]) = (mNames t).map fun n => cat [tMsg, n, tOpen] := by
      rw [List.map_map, List.map_map]
      exact this
    exact map_inj_on _ h5 fun a _ b _ hab => by
      simp only [cat_cons, cat_nil, List.append_nil] at hab
      exact ba_eq (List.append_cancel_right (List.append_cancel_left hab))
  have he : eNames s = eNames t := by unfold eNames; rw [e1]
  have e2 := map_inj_on bM2 h4 fun m hm g hg => bM2_inj m g (mgood hs m hm) (mgood ht g hg) fun x hx y hy hr hx2 hy2 => by
    have r1 := hs.refs m hm x hx
    have r2 := ht.refs g hg y hy
    have nd := hs.nod
    rw [List.nodup_append] at nd
    rcases hx2 with hx2 | hx2 <;> rcases hy2 with hy2 | hy2
    · rw [hx2, hy2]
    · have a1 := r1.1 hx2
      have a2 := r2.2 hy2
      rw [← hn] at a2
      exact absurd hr (nd.2.2 _ a1 _ a2)
    · have a1 := r1.2 hx2
      have a2 := r2.1 hy2
      rw [← he] at a2
      exact absurd hr.symm (nd.2.2 _ a2 _ a1)
    · rw [hx2, hy2]
  cases s; cases t
  simp only at e1 e2
  rw [e1, e2]
theorem textL_ne (s : Sch) (h : Good s) : textL s ≠ [] := by
  intro e
  have : s.Messages ≠ [] := h.root
  cases hm : s.Messages with
  | nil => exact this hm
  | cons m r =>
    unfold textL at e
    rw [hm] at e
    simp [msgL, lnF] at e
end Go.Proofs.YtmhdapjmndfkgaaGreatDoor.Sp.B
