/- Laws of fields. -/
import Derived.Test.YticmmpiffekbiaaDoorFdG
namespace Go.Proofs.YticmmpiffekbiaaDoor.Fd
open Go Go.Proofs.YticmmpiffekbiaaDoor.Eng Go.Proofs.YticmmpiffekbiaaDoor.Eng.V
set_option linter.unusedSimpArgs false
set_option linter.unusedVariables false
def textF' (f : Fld) : ByteArray := textF f
theorem cells_of (l : List AV) (h : AvT Tryd.prog 40 l) : ∃ f : Fld, l = f.cells ∧ f.Name.size ≤ 140737488351232 ∧ f.Ref.size ≤ 140737488351232 ∧ f.One.size ≤ 140737488351232 := by
  obtain ⟨ps, rfl, hn⟩ := h.fields (ts := [9, 3, 3, 9, 4, 4, 9]) (by kernel_rfl) (by kernel_rfl)
  match ps, hn with
  | [p0, p1, p2, p3, p4, p5, p6], ⟨h0, h1, h2, h3, h4, h5, h6, _⟩ =>
    obtain ⟨a, rfl, ha⟩ := h0.str_inv Tryd.underlying9
    obtain ⟨b, rfl, _⟩ := h1.int_inv Tryd.underlying3
    obtain ⟨c, rfl, _⟩ := h2.int_inv Tryd.underlying3
    obtain ⟨d, rfl, hd⟩ := h3.str_inv Tryd.underlying9
    obtain ⟨e, rfl⟩ := h4.bool_inv Tryd.underlying4
    obtain ⟨g, rfl⟩ := h5.bool_inv Tryd.underlying4
    obtain ⟨i, rfl, hi⟩ := h6.str_inv Tryd.underlying9
    exact ⟨⟨a, b, c, d, e, g, i⟩, rfl, ha, hd, hi⟩
theorem d_FieldTexts (f : Fld) (h1 : f.Name.size ≤ 140737488351232) (h2 : f.Ref.size ≤ 140737488351232) (h3 : f.One.size ≤ 140737488351232) : dd i_law14_FieldTexts [fl f] = some (bl true) := by
  refine D_runE (V := v_law14_FieldTexts) 1 rfl rfl rfl ?_
  rw [s_law14_FieldTexts]
  cases hs : smallF f
  · simp [X, Y, Z, d_small, d_live14, hs]
  · obtain ⟨ha, hb⟩ := small_size f h1 h2 h3 hs
    simp [X, Y, Z, d_small, d_live14, hs, d_fText f (by omega) (by omega), d_rText f (by omega) (by omega), text_eq, d_Packed, d_rPacked, d_Hidden, d_rHidden]
theorem law_FieldTexts (l0 : List AV) (h0 : AvT Tryd.prog 40 l0) : D defs Prim.primsR Prim.powG i_law14_FieldTexts [argA true l0] = some (.v (.bool true)) := by
  obtain ⟨f, rfl, h1, h2, h3⟩ := cells_of l0 h0
  exact d_FieldTexts f h1 h2 h3
theorem ph_no (f : Fld) : (packedF f && hiddenF f) = false := by
  unfold packedF hiddenF
  cases f.Rep <;> simp
def oneOff (f : Fld) : Fld := ⟨f.Name, f.Num, f.Ty, f.Ref, f.Rep, f.Loose, noS⟩
def looseOn (f : Fld) : Fld := ⟨f.Name, f.Num, f.Ty, f.Ref, f.Rep, true, noS⟩
def chkB (rn oz ro rt rr rz ty rep lo ak tg : Bool) : Int := bif !((bif rt then rr else rz) && (rn && (oz || ro))) then 2 else bif ty then 1 else bif rep && !oz then 1 else bif lo && !(rep && ak) then 1 else bif !tg then 1 else 0
theorem chkB_eq (f : Fld) : checkF f = chkB (Prim.rightF f.Name) (decide (f.One = noS)) (Prim.rightF f.One) (refersF f.Ty) (Prim.rightF f.Ref) (decide (f.Ref = noS)) (decide (f.Ty < 1) || decide (15 < f.Ty)) f.Rep f.Loose (andK 2 f.Ty) (tagF f.Num) := rfl
theorem chkB_one : ∀ {rn oz ro rt rr rz ty rep lo ak tg ro' : Bool}, chkB rn oz ro rt rr rz ty rep lo ak tg = 0 → chkB rn true ro' rt rr rz ty rep lo ak tg = 0 := by
  intro rn oz ro rt rr rz ty rep lo ak tg ro'
  cases rn <;> cases oz <;> cases ro <;> cases rt <;> cases rr <;> cases rz <;> cases ty <;> cases rep <;> cases lo <;> cases ak <;> cases tg <;> intro h <;> first | rfl | (exact absurd h (by decide))
theorem chkB_loose : ∀ {rn oz ro rt rr rz ty rep lo ak tg ro' : Bool}, chkB rn oz ro rt rr rz ty rep lo ak tg = 0 → (rep && (!lo && ak)) = true → chkB rn true ro' rt rr rz ty rep true ak tg = 0 := by
  intro rn oz ro rt rr rz ty rep lo ak tg ro'
  cases rn <;> cases oz <;> cases ro <;> cases rt <;> cases rr <;> cases rz <;> cases ty <;> cases rep <;> cases lo <;> cases ak <;> cases tg <;> intro h hp <;> first | rfl | (exact absurd h (by decide)) | (exact absurd hp (by decide))
theorem check_oneOff (f : Fld) (h : checkF f = 0) : checkF (oneOff f) = 0 := by
  rw [chkB_eq] at h
  rw [chkB_eq]
  have e : decide ((oneOff f).One = noS) = true := by rw [decide_eq_true_eq]; rfl
  rw [e]
  exact chkB_one h
theorem check_looseOn (f : Fld) (h : checkF f = 0) (hp : packedF f = true) : checkF (looseOn f) = 0 := by
  rw [chkB_eq] at h
  rw [chkB_eq]
  have e : decide ((looseOn f).One = noS) = true := by rw [decide_eq_true_eq]; rfl
  rw [e]
  exact chkB_loose h hp
theorem packed_looseOn (f : Fld) : packedF (looseOn f) = false := by
  unfold packedF looseOn
  cases f.Rep <;> simp
theorem text_oneOff (f : Fld) (h : checkF f = 0) : textF (oneOff f) = textF f := by
  have h' := check_oneOff f h
  rw [text_eq, text_eq]
  unfold rtextF
  rw [← check_eq, ← check_eq, h, h']
  rfl
theorem d_FieldOnes (f : Fld) (h1 : f.Name.size ≤ 140737488351232) (h2 : f.Ref.size ≤ 140737488351232) (h3 : f.One.size ≤ 140737488351232) : dd i_law14_FieldOnes [fl f] = some (bl true) := by
  refine D_runE (V := v_law14_FieldOnes) 1 rfl rfl rfl ?_
  rw [s_law14_FieldOnes]
  have hph := ph_no f
  cases hs : smallF f
  · cases hp : packedF f <;> cases hh : hiddenF f <;> simp [X, Y, Z, d_small, d_live14, hs, d_Packed, d_Hidden, hp, hh] at hph ⊢
  · obtain ⟨ha, hb⟩ := small_size f h1 h2 h3 hs
    have hn := fun e => d_num e
    cases hc : decide (checkF f = 0)
    · have hc' : ¬ checkF f = 0 := of_decide_eq_false hc
      cases hp : packedF f <;> cases hh : hiddenF f <;> simp [X, Y, Z, d_small, d_live14, hs, d_fCheck, d_num, hc', d_Packed, d_Hidden, hp, hh] at hph ⊢
    · have hc' : checkF f = 0 := of_decide_eq_true hc
      have k1 := d_fCheck (oneOff f)
      rw [check_oneOff f hc'] at k1
      have k2 := d_fText (oneOff f) (show f.Name.size ≤ _ by omega) (show f.Ref.size ≤ _ by omega)
      rw [text_oneOff f hc'] at k2
      have k3 := d_fText f (by omega) (by omega)
      have k4 := d_fCheck (looseOn f)
      have k5 := d_Packed (looseOn f)
      rw [packed_looseOn] at k5
      simp only [oneOff, fl, Fld.cells] at k1 k2
      simp only [looseOn, fl, Fld.cells] at k5
      cases hp : packedF f
      · simp [X, Y, Z, d_small, d_live14, hs, d_fCheck, d_num, hc', d_Packed, d_Hidden, hp, k1, k2, k3]
      · have hh : hiddenF f = false := by rw [hp] at hph; simpa using hph
        rw [check_looseOn f hc' hp] at k4
        simp only [looseOn, fl, Fld.cells] at k4
        simp [X, Y, Z, d_small, d_live14, hs, d_fCheck, d_num, hc', d_Packed, d_Hidden, hp, hh, k1, k2, k3, k4, k5]
theorem law_FieldOnes (l0 : List AV) (h0 : AvT Tryd.prog 40 l0) : D defs Prim.primsR Prim.powG i_law14_FieldOnes [argA true l0] = some (.v (.bool true)) := by
  obtain ⟨f, rfl, h1, h2, h3⟩ := cells_of l0 h0
  exact d_FieldOnes f h1 h2 h3
end Go.Proofs.YticmmpiffekbiaaDoor.Fd
