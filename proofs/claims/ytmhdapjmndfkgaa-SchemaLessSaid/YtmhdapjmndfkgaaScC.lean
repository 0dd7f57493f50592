/- A schema without one of its messages. -/
import Derived.Test.YtmhdapjmndfkgaaScB
namespace Go.Proofs.Ytmhdapjmndfkgaa.Sc.B
open Go Go.Proofs.Ytmhdapjmndfkgaa.Eng Go.Proofs.Ytmhdapjmndfkgaa.Eng.V
set_option linter.unusedSimpArgs false
set_option linter.unusedVariables false
open Sc
open Sc.W (lt2 riseP sl xi_at wrap_succ wrap_nat wrap_pred)
/-! ### a schema without one of its messages -/
theorem bl_trans : ∀ (a b c : List UInt8), Op.bytesLess a b = true → Op.bytesLess b c = true → Op.bytesLess a c = true
  | [], [], c, h, _ => by simp [Op.bytesLess] at h
  | [], b :: v, [], _, h => by simp [Op.bytesLess] at h
  | [], b :: v, c :: x, _, _ => by simp [Op.bytesLess]
  | a :: u, [], c, h, _ => by simp [Op.bytesLess] at h
  | a :: u, b :: v, [], _, h => by simp [Op.bytesLess] at h
  | a :: u, b :: v, c :: x, h, h' => by
    simp only [Op.bytesLess, Bool.or_eq_true, Bool.and_eq_true, decide_eq_true_eq, beq_iff_eq] at h h' ⊢
    rcases h with h | ⟨rfl, h⟩ <;> rcases h' with h' | ⟨rfl, h'⟩
    · exact .inl (UInt8.lt_trans h h')
    · exact .inl h
    · exact .inl h'
    · exact .inr ⟨rfl, bl_trans u v x h h'⟩
theorem lt2_trans {a b c : ByteArray} (h : lt2 a b = true) (h' : lt2 b c = true) : lt2 a c = true := bl_trans _ _ _ h h'
theorem rise_some : ∀ (l : List ByteArray) (y : ByteArray), riseP (some y) l = true → (∀ z ∈ l, lt2 y z = true) ∧ l.Pairwise fun a b => lt2 a b = true
  | [], y, _ => ⟨fun z h => by (cases h), .nil⟩
  | x :: l, y, h => by
    simp only [riseP, Bool.and_eq_true] at h
    obtain ⟨h1, h2⟩ := rise_some l x h.2
    refine ⟨fun z hz => ?_, List.pairwise_cons.2 ⟨h1, h2⟩⟩
    rcases List.mem_cons.1 hz with rfl | hz
    · exact h.1
    · exact lt2_trans h.1 (h1 z hz)
theorem rise_pw {l : List ByteArray} (h : riseP none l = true) : l.Pairwise fun a b => lt2 a b = true := by
  cases l with
  | nil => exact .nil
  | cons x l =>
    obtain ⟨h1, h2⟩ := rise_some l x h
    exact List.pairwise_cons.2 ⟨h1, h2⟩
theorem pw_some : ∀ (l : List ByteArray) (y : ByteArray), (∀ z ∈ l, lt2 y z = true) → (l.Pairwise fun a b => lt2 a b = true) → riseP (some y) l = true
  | [], _, _, _ => rfl
  | x :: l, y, h, hp => by
    obtain ⟨h1, h2⟩ := List.pairwise_cons.1 hp
    simp only [riseP, Bool.and_eq_true]
    exact ⟨h x List.mem_cons_self, pw_some l x h1 h2⟩
theorem pw_rise {l : List ByteArray} (h : l.Pairwise fun a b => lt2 a b = true) : riseP none l = true := by
  cases l with
  | nil => rfl
  | cons x l =>
    obtain ⟨h1, h2⟩ := List.pairwise_cons.1 h
    exact pw_some l x h1 h2
theorem fieldsF_iff : ∀ l : List Ms, fieldsF l = 0 ↔ ∀ m ∈ l, fsF m.Fields = 0
  | [] => ⟨fun _ m h => by (cases h), fun _ => rfl⟩
  | m :: r => by
    unfold fieldsF
    constructor
    · intro h
      split at h
      · rename_i h0
        intro x hx
        rcases List.mem_cons.1 hx with rfl | hx
        · exact h0
        · exact (fieldsF_iff r).1 h x hx
      · rename_i h0; exact absurd h h0
    · intro h
      rw [if_pos (h m List.mem_cons_self)]
      exact (fieldsF_iff r).2 fun x hx => h x (List.mem_cons_of_mem _ hx)
def less (s : Sch) (i : Nat) : Sch := ⟨s.Enums, s.Messages.take i ++ s.Messages.drop (i + 1)⟩
theorem less_mem {s : Sch} {i : Nat} {m : Ms} (h : m ∈ (less s i).Messages) : ∃ k : Nat, k ≠ i ∧ s.Messages[k]? = some m := by
  rcases List.mem_append.1 h with h | h
  · obtain ⟨k, hk, rfl⟩ := List.mem_iff_getElem.1 h
    have hk' : k < i ∧ k < s.Messages.length := by rw [List.length_take] at hk; omega
    exact ⟨k, by omega, by rw [List.getElem_take]; exact List.getElem?_eq_getElem hk'.2⟩
  · obtain ⟨k, hk, rfl⟩ := List.mem_iff_getElem.1 h
    have hk' : i + 1 + k < s.Messages.length := by rw [List.length_drop] at hk; omega
    exact ⟨i + 1 + k, by omega, by rw [List.getElem_drop]; exact List.getElem?_eq_getElem hk'⟩
theorem less_in {s : Sch} {i k : Nat} {m : Ms} (hk : k ≠ i) (h : s.Messages[k]? = some m) : m ∈ (less s i).Messages := by
  obtain ⟨hl, rfl⟩ := List.getElem?_eq_some_iff.1 h
  unfold less
  rw [List.mem_append]
  by_cases h1 : k < i
  · left
    exact List.mem_iff_getElem.2 ⟨k, by rw [List.length_take]; omega, by rw [List.getElem_take]⟩
  · right
    exact List.mem_iff_getElem.2 ⟨k - (i + 1), by rw [List.length_drop]; omega, by rw [List.getElem_drop]; congr 1; omega⟩
theorem less_sub (s : Sch) (i : Nat) : (less s i).Messages.Sublist s.Messages := by
  unfold less
  have h : (s.Messages.take i ++ s.Messages.drop (i + 1)).Sublist (s.Messages.take i ++ s.Messages.drop i) := by
    refine List.Sublist.append (List.Sublist.refl _) ?_
    rw [← List.drop_drop]
    exact List.drop_sublist 1 _
  rw [List.take_append_drop] at h
  exact h
theorem any_sub {α : Type} {p : α → Bool} {l l' : List α} (h : l'.Sublist l) (ha : l.any p = false) : l'.any p = false := by
  rw [List.any_eq_false] at ha ⊢
  exact fun x hx => ha x (h.mem hx)
/-- No other message's field names the message. -/
def free (s : Sch) (i : Nat) (nm : ByteArray) : Prop := ∀ (k : Nat) (m : Ms), k ≠ i → s.Messages[k]? = some m → (m.Fields.any fun f => decide (f.Ty = 15) && decide (f.Ref = nm)) = false
theorem check_parts {s : Sch} (h : sCheckF s = 0) : manyF s = false ∧ noneF s = false ∧ misnamedF s = false ∧ fieldsF s.Messages = 0 ∧ twiceF s = false ∧ disF s = false ∧ barF s = false ∧ lostF s = false := by
  unfold sCheckF at h
  cases h1 : manyF s <;> rw [h1] at h <;> simp only [cond_true, cond_false] at h
  · cases h2 : noneF s <;> rw [h2] at h <;> simp only [cond_true, cond_false] at h
    · cases h3 : misnamedF s <;> rw [h3] at h <;> simp only [cond_true, cond_false] at h
      · by_cases h4 : fieldsF s.Messages = 0
        · rw [if_pos h4] at h
          cases h5 : twiceF s <;> rw [h5] at h <;> simp only [cond_true, cond_false] at h
          · cases h6 : disF s <;> rw [h6] at h <;> simp only [cond_true, cond_false] at h
            · cases h7 : barF s <;> rw [h7] at h <;> simp only [cond_true, cond_false] at h
              · cases h8 : lostF s <;> rw [h8] at h <;> simp only [cond_true, cond_false] at h
                · exact ⟨rfl, rfl, rfl, h4, rfl, rfl, rfl, rfl⟩
                · omega
              · omega
            · omega
          · omega
        · rw [if_neg h4] at h; exact absurd h h4
      · omega
    · omega
  · omega
theorem less_tail {α : Type} (l : List α) (i : Nat) : (l.take i ++ l.drop (i + 1)).tail.Sublist l.tail := by
  cases l with
  | nil => simp
  | cons x r =>
    cases i with
    | zero => simp only [List.take_zero, List.nil_append, List.drop_succ_cons, List.drop_zero, List.tail_cons]; exact List.tail_sublist r
    | succ i =>
      simp only [List.take_succ_cons, List.cons_append, List.tail_cons, List.drop_succ_cons]
      have h : (r.take i ++ r.drop (i + 1)).Sublist (r.take i ++ r.drop i) := by
        refine List.Sublist.append (List.Sublist.refl _) ?_
        rw [← List.drop_drop]
        exact List.drop_sublist 1 _
      rw [List.take_append_drop] at h
      exact h
theorem less_many {s : Sch} (i : Nat) (h : manyF s = false) : manyF (less s i) = false := by
  have hs := less_sub s i
  have hl := hs.length_le
  unfold manyF at h ⊢
  simp only [Bool.or_eq_false_iff, decide_eq_false_iff_not] at h ⊢
  exact ⟨⟨⟨h.1.1.1, by have := h.1.1.2; omega⟩, h.1.2⟩, any_sub hs h.2⟩
/-- Without a message that no other one names, a schema may be still. -/
theorem less_check {s : Sch} {i : Nat} {mi : Ms} (hi : s.Messages[i]? = some mi) (h : sCheckF s = 0) (hf : free s i mi.Name) (hne : (less s i).Messages ≠ []) : sCheckF (less s i) = 0 := by
  obtain ⟨h1, h2, h3, h4, h5, h6, h7, h8⟩ := check_parts h
  have hs := less_sub s i
  have q1 : manyF (less s i) = false := less_many i h1
  have q2 : noneF (less s i) = false := by
    unfold noneF at h2 ⊢
    simp only [Bool.or_eq_false_iff, decide_eq_false_iff_not] at h2 ⊢
    exact ⟨fun h => hne (List.length_eq_zero_iff.1 h), h2.2⟩
  have q3 : misnamedF (less s i) = false := by
    unfold misnamedF at h3 ⊢
    simp only [Bool.or_eq_false_iff] at h3 ⊢
    exact ⟨h3.1, any_sub hs h3.2⟩
  have q4 : fieldsF (less s i).Messages = 0 := (fieldsF_iff _).2 fun m hm => (fieldsF_iff _).1 h4 m (hs.mem hm)
  have q5 : twiceF (less s i) = false := by
    unfold twiceF at h5 ⊢
    simp only [Bool.or_eq_false_iff, Bool.not_eq_false', decide_eq_true_eq] at h5 ⊢
    refine ⟨⟨?_, h5.1.2⟩, any_sub hs h5.2⟩
    exact h5.1.1.sublist (List.Sublist.append (List.Sublist.refl _) (hs.map _))
  have q6 : disF (less s i) = false := by
    unfold disF at h6 ⊢
    simp only [Bool.or_eq_false_iff, Bool.not_eq_false'] at h6 ⊢
    refine ⟨⟨⟨h6.1.1.1, pw_rise ?_⟩, h6.1.2⟩, any_sub hs h6.2⟩
    refine (rise_pw h6.1.1.2).sublist ?_
    show ((s.Messages.take i ++ s.Messages.drop (i + 1)).map Ms.Name).tail.Sublist (s.Messages.map Ms.Name).tail
    rw [List.map_append, List.map_take, List.map_drop]
    exact less_tail _ i
  have q7 : barF (less s i) = false := by unfold barF at h7 ⊢; exact any_sub hs h7
  have q8 : lostF (less s i) = false := by
    unfold lostF at h8 ⊢
    rw [List.any_eq_false] at h8 ⊢
    intro m hm hl
    obtain ⟨k, hk, hkm⟩ := less_mem hm
    refine h8 m (hs.mem hm) ?_
    have hfr := hf k m hk hkm
    unfold lost1 at hl ⊢
    rw [List.any_eq_true] at hl ⊢
    obtain ⟨f, hfm, hl⟩ := hl
    refine ⟨f, hfm, ?_⟩
    have hn := List.any_eq_false.1 hfr f hfm
    unfold lost2 at hl ⊢
    simp only [Bool.or_eq_true, Bool.and_eq_true, decide_eq_true_eq, Bool.not_eq_true'] at hl hn ⊢
    rcases hl with hl | ⟨h9, h10⟩
    · exact .inl hl
    · refine .inr ⟨h9, ?_⟩
      rw [List.any_eq_false] at h10 ⊢
      intro w hw hd
      rw [decide_eq_true_eq] at hd
      obtain ⟨m', hm', rfl⟩ := List.mem_map.1 hw
      obtain ⟨k', hk'⟩ := List.mem_iff_getElem?.1 hm'
      by_cases he : k' = i
      · subst he
        rw [hi] at hk'
        cases hk'
        exact hn ⟨h9, hd⟩
      · exact h10 m'.Name (List.mem_map_of_mem (less_in he hk')) (by rw [decide_eq_true_eq]; exact hd)
  unfold sCheckF
  rw [q1, q2, q3, q5, q6, q7, q8, if_pos q4]
  rfl
/-- Without its only message a schema has none. -/
theorem less_none {s : Sch} {i : Nat} (h : sCheckF s = 0) (hne : (less s i).Messages = []) : sCheckF (less s i) = 5 := by
  obtain ⟨h1, _⟩ := check_parts h
  have q1 := less_many i h1
  have q2 : noneF (less s i) = true := by unfold noneF; rw [hne]; rfl
  unfold sCheckF
  rw [q1, q2]
  rfl
end Go.Proofs.Ytmhdapjmndfkgaa.Sc.B
