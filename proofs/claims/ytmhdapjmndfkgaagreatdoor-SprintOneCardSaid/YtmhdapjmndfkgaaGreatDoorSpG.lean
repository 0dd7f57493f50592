/- Check, both. -/
import Derived.Test.YtmhdapjmndfkgaaGreatDoorSpF
namespace Go.Proofs.YtmhdapjmndfkgaaGreatDoor.Sp.B
open Go Go.Proofs.YtmhdapjmndfkgaaGreatDoor.Eng Go.Proofs.YtmhdapjmndfkgaaGreatDoor.Eng.V
set_option linter.unusedSimpArgs false
set_option linter.unusedVariables false
open Sp
open Sp.W (lt2 riseP sl xi_at wrap_succ wrap_nat wrap_pred)
def rCheckF (s : Sch) : Int := bif manyF s then 4 else bif noneF s then 5 else bif rtextF s then 2 else if rfieldsF s.Messages = 0 then (bif rtwiceF s then 6 else bif rorderF s then 1 else bif barF s then 6 else bif (s.Messages.any fun m => m.Fields.any (rlost2 s)) then 5 else 0) else rfieldsF s.Messages
theorem d_rCheckS (s : Sch) (ok : SchOk s) : dd i_ref15_Check [sch s] = some (i64 (rCheckF s)) := by
  refine D_runE (V := v_ref15_Check) 1 rfl rfl rfl ?_
  rw [s_ref15_Check]
  have e1 := d_rmany s ok
  have e2 := d_rnone s ok
  have e3 := d_rtext s ok
  have e4 := d_rfields s ok
  have e5 := d_rtwice s ok
  have e7 := d_rbarred s ok
  have e8 := d_rrefs s ok
  unfold rCheckF
  cases q1 : manyF s <;> rw [q1] at e1
  · cases q2 : noneF s <;> rw [q2] at e2
    · unfold noneF at q2
      rw [Bool.or_eq_false_iff] at q2
      have he : ∀ e ∈ s.Enums, e.Values ≠ [] := fun e h hv => by
        have := List.any_eq_false.1 q2.2 e h
        rw [none1, hv] at this
        simp at this
      have e6 := d_rorder s ok he
      cases q3 : rtextF s <;> rw [q3] at e3
      · by_cases q4 : rfieldsF s.Messages = 0
        · rw [q4] at e4
          cases q5 : rtwiceF s <;> rw [q5] at e5
          · cases q6 : rorderF s <;> rw [q6] at e6
            · cases q7 : barF s <;> rw [q7] at e7
              · cases q8 : (s.Messages.any fun m => m.Fields.any (rlost2 s)) <;> rw [q8] at e8 <;> simp [X, Y, Z, e1, e2, e3, e4, e5, e6, e7, e8, q4]
              · simp [X, Y, Z, e1, e2, e3, e4, e5, e6, e7, q4]
            · simp [X, Y, Z, e1, e2, e3, e4, e5, e6, q4]
          · simp [X, Y, Z, e1, e2, e3, e4, e5, q4]
        · simp [X, Y, Z, e1, e2, e3, e4, q4]
      · simp [X, Y, Z, e1, e2, e3]
    · simp [X, Y, Z, e1, e2]
  · simp [X, Y, Z, e1]
theorem any_congr' {α : Type} {p q : α → Bool} (h : ∀ x, p x = q x) (l : List α) : l.any p = l.any q := by
  rw [show p = q from funext h]
theorem wrong_eq (w : ByteArray) : wrongF w = rwrongF w := by
  unfold rwrongF
  rw [← right_eq]
theorem text_eq15 (s : Sch) : misnamedF s = rtextF s := by
  unfold misnamedF rtextF
  rw [any_congr' (p := mis2) (q := rmis2), any_congr' (p := mis3) (q := rmis3)]
  · intro m; exact wrong_eq _
  · intro e
    unfold mis2 rmis2
    rw [List.any_map, wrong_eq, any_congr' (p := wrongF ∘ Vl.Name) (q := fun v => rwrongF v.Name) fun v => wrong_eq _]
theorem fs_eq : ∀ l : List Fld, fsF l = rfsF l
  | [] => rfl
  | f :: r => by unfold fsF rfsF; rw [check_eq, fs_eq r]
theorem fields_eq : ∀ l : List Ms, fieldsF l = rfieldsF l
  | [] => rfl
  | m :: r => by unfold fieldsF rfieldsF; rw [fs_eq, fields_eq r]
theorem nodup_add (l : List ByteArray) (x : ByteArray) (h : l.Nodup) : (!decide (l ++ [x]).Nodup) = l.any fun w => decide (x = w) := by
  rw [Bool.eq_iff_iff, List.any_eq_true]
  simp only [Bool.not_eq_true', decide_eq_false_iff_not, List.nodup_append, decide_eq_true_eq]
  constructor
  · intro hn
    by_cases hm : x ∈ l
    · exact ⟨x, hm, rfl⟩
    · exact absurd ⟨h, by simp, fun a ha b hb e => hm (by rw [List.mem_singleton] at hb; rw [← hb, ← e]; exact ha)⟩ hn
  · rintro ⟨w, hw, rfl⟩ ⟨_, _, hn⟩
    exact hn _ hw _ (List.mem_singleton.2 rfl) rfl
theorem tw2_eq (m : Ms) : twice2 m = rtw2 m := by
  unfold twice2 rtw2
  by_cases h : (m.Fields.map Fld.Name).Nodup
  · rw [any_congr' (p := twice21 (m.Fields.map Fld.Name)) (q := rtw (m.Fields.map Fld.Name))]
    intro f
    unfold twice21 rtw
    rw [nodup_add _ _ h]
  · simp [h]
theorem twice_eq (s : Sch) : twiceF s = rtwiceF s := by
  unfold twiceF rtwiceF
  rw [any_congr' tw2_eq]
  cases decide (eNames s ++ mNames s).Nodup <;> cases s.Enums.any twice1 <;> cases s.Messages.any rtw2 <;> rfl
theorem riseI_lt : ∀ (l : List Int) (y : Int), riseI (some y) l = true → ∀ x ∈ l, y < x
  | [], _, _, _, h => by cases h
  | z :: l, y, h, x, hx => by
    unfold riseI at h
    rw [Bool.and_eq_true] at h
    have h1 : y < z := by have := h.1; simp at this; omega
    rcases List.mem_cons.1 hx with rfl | hx
    · exact h1
    · have := riseI_lt l z h.2 x hx; omega
theorem riseI_last : ∀ (l : List Int) (y : Int), riseI (some y) l = true → ∀ x ∈ y :: l, x ≤ lsI (y :: l)
  | [], y, _, x, hx => by
    have : x = y := by simpa using hx
    subst this
    exact Int.le_refl _
  | z :: l, y, h, x, hx => by
    have h' := h
    unfold riseI at h'
    rw [Bool.and_eq_true] at h'
    have h1 : y < z := by have := h'.1; simp at this; omega
    have e : lsI (y :: z :: l) = lsI (z :: l) := by unfold lsI; simp
    rw [e]
    have h2 := riseI_last l z h'.2
    rcases List.mem_cons.1 hx with rfl | hx
    · have := h2 z List.mem_cons_self; omega
    · exact h2 x hx
theorem lsI_mem : ∀ (l : List Int), l ≠ [] → lsI l ∈ l := by
  intro l h
  have := last_at h
  exact List.mem_of_getElem? this
theorem num_any (l : List Int) (h : riseI none l = true) : (l.any fun n => !tagnumF n) = (decide ((0 : Int) < l.length) && (decide (hdI l < 1) || decide (536870911 < lsI l))) := by
  cases l with
  | nil => rfl
  | cons y l =>
    have h : riseI (some y) l = true := h
    have h0 : decide ((0 : Int) < ((y :: l).length : Nat)) = true := by rw [decide_eq_true_eq]; simp only [List.length_cons]; omega
    rw [h0, Bool.true_and]
    have hh : hdI (y :: l) = y := rfl
    rw [hh, Bool.eq_iff_iff, List.any_eq_true, Bool.or_eq_true, decide_eq_true_eq, decide_eq_true_eq]
    have hl := riseI_last l y h
    have hlt := riseI_lt l y h
    unfold tagnumF
    constructor
    · rintro ⟨x, hx, hn⟩
      have h1 := hl x hx
      have h2 : y ≤ x := by
        rcases List.mem_cons.1 hx with rfl | hx
        · omega
        · have := hlt x hx; omega
      simp at hn
      omega
    · rintro (h1 | h1)
      · exact ⟨y, List.mem_cons_self, by simp; omega⟩
      · exact ⟨lsI (y :: l), lsI_mem _ (by simp), by simp; omega⟩
theorem numM_eq (m : Ms) : (!numF m) = rnumM m := by
  unfold numF rnumM
  cases riseI none (m.Fields.map Fld.Num)
  · rfl
  · cases h : riseI none m.Barred
    · rfl
    · rw [num_any _ h]
      simp
theorem order_eq (s : Sch) : disF s = rorderF s := by
  unfold disF rorderF
  rw [any_congr' numM_eq]
  cases riseP none (eNames s) <;> cases riseP none (mNames s).tail <;> cases s.Enums.any (fun e => !valL (e.Values.map Vl.Num)) <;> cases s.Messages.any rnumM <;> rfl
theorem lt_any {α : Type} (p : α → Bool) (l : List α) : decide (fiF p l 0 < 0) = !l.any p := by
  rw [← fi_any p l 0, ← decide_not, decide_eq_decide]
  omega
theorem lost_eq (s : Sch) : lostF s = s.Messages.any fun m => m.Fields.any (rlost2 s) := by
  unfold lostF
  refine any_congr' (fun m => ?_) _
  unfold lost1
  refine any_congr' (fun f => ?_) _
  unfold lost2 rlost2
  rw [lt_any, lt_any]
  unfold hasS eNames mNames
  rw [List.any_map, List.any_map]
  rfl
theorem check15_eq (s : Sch) : sCheckF s = rCheckF s := by
  unfold sCheckF rCheckF
  rw [text_eq15, fields_eq, twice_eq, order_eq, lost_eq]
end Go.Proofs.YtmhdapjmndfkgaaGreatDoor.Sp.B
