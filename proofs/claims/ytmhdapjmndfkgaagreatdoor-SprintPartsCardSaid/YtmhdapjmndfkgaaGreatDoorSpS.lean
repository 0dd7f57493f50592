/- The statements' functions. -/
import Derived.Test.YtmhdapjmndfkgaaGreatDoorSpQ
import Derived.Test.YtmhdapjmndfkgaaGreatDoorSpR
namespace Go.Proofs.YtmhdapjmndfkgaaGreatDoor.Sp.B
open Go Go.Proofs.YtmhdapjmndfkgaaGreatDoor.Eng Go.Proofs.YtmhdapjmndfkgaaGreatDoor.Eng.V
set_option linter.unusedSimpArgs false
set_option linter.unusedVariables false
open Sp
open Sp.W (lt2 riseP sl xi_at wrap_succ wrap_nat wrap_pred)
theorem wrap_id {x : Int} (h0 : 0 ≤ x) (h : x < 4611686018427387904) : IntKind.i64.wrap x = x := by
  simp [IntKind.wrap, IntKind.bits, IntKind.signed]
  omega
structure SchB (s : Sch) : Prop where
  el : s.Enums.length < 281474976710656
  ml : s.Messages.length < 281474976710656
  en : ∀ e ∈ s.Enums, e.Values.length < 281474976710656 ∧ e.Name.size < 281474976710656
  ms : ∀ m ∈ s.Messages, m.Fields.length < 281474976710656 ∧ m.Barred.length < 281474976710656 ∧ m.Name.size < 281474976710656
def sE : List En → Int → Int
  | [], n => n
  | e :: r, n => if n < 200 then sE r (n + e.Values.length + (e.Name.size : Int) / 10) else n
def sM : List Ms → Int → Int
  | [], n => n
  | m :: r, n => if n < 200 then sM r (n + m.Fields.length + m.Barred.length + (m.Name.size : Int) / 10) else n
theorem R_small1 (s : Sch) (hb : SchB s) (n0 : Int) (h0 : 0 ≤ n0) (h1 : n0 < 2251799813685248) : R_ref15_Small_1 dd Prim.powG 281474976710656 281474976710656 [so s] (.ptr (1, 0) 0) (i64 0) (i64 n0) .undef = if 200 ≤ sM s.Messages n0 then some (bl false) else R_ref15_Small_3 dd Prim.powG 281474976710656 281474976710656 [so s] (i64 0) (.ptr (1, 0) 0) .undef := by
  have hml := hb.ml
  have h := loop_acc s.Messages (P := fun dn r m => ∀ n : Int, 0 ≤ n → n < 2251799813685248 → R_ref15_Small_1 dd Prim.powG 281474976710656 m [so s] (.ptr (1, 0) 0) (i64 dn.length) (i64 n) .undef = if 200 ≤ sM r n then some (bl false) else R_ref15_Small_3 dd Prim.powG 281474976710656 281474976710656 [so s] (i64 0) (.ptr (1, 0) 0) .undef) (by
    intro m n hn hn'
    rw [R_ref15_Small_1_s]
    by_cases h2 : 200 ≤ n <;> simp [X, Y, Z, k_ref15_Small_3, sM, h2]) (by
    intro dn x r m he hi hx ih n hn hn'
    rw [R_ref15_Small_1_s]
    rw [List.length_append] at ih
    push_cast at ih
    have hs := wrap_succ (show dn.length < 4611686018427387904 by omega)
    obtain ⟨b1, b2, b3⟩ := hb.ms x (mem_at hx)
    unfold sM
    by_cases h2 : n < 200
    · have w1 := wrap_id (x := n + x.Fields.length) (by omega) (by omega)
      have w2 := wrap_id (x := n + x.Fields.length + x.Barred.length) (by omega) (by omega)
      have w3 := wrap_id (x := n + x.Fields.length + x.Barred.length + (x.Name.size : Int) / 10) (by omega) (by omega)
      have w4 := wrap_id (x := (x.Name.size : Int) / 10) (by omega) (by omega)
      have := ih (n + x.Fields.length + x.Barred.length + (x.Name.size : Int) / 10) (by omega) (by omega)
      simp [X, Y, Z, hi, xi_at hx, eM, k_ref15_Small_1, hs, h2, w1, w2, w3, w4]
      simpa using this
    · have h3 : 200 ≤ n := by omega
      simp [X, Y, Z, hi, k_ref15_Small_3, h2, h3]) 281474976710656 (by omega)
  exact h n0 h0 h1
theorem R_small0 (s : Sch) (hb : SchB s) (n0 : Int) (h0 : 0 ≤ n0) (h1 : n0 < 1125899906842624) : R_ref15_Small_0 dd Prim.powG 281474976710656 281474976710656 [so s] (.ptr (1, 0) 0) (i64 0) (i64 n0) .undef = if 200 ≤ sM s.Messages (sE s.Enums n0) then some (bl false) else R_ref15_Small_3 dd Prim.powG 281474976710656 281474976710656 [so s] (i64 0) (.ptr (1, 0) 0) .undef := by
  have hml := hb.el
  have h := loop_acc s.Enums (P := fun dn r m => ∀ n : Int, 0 ≤ n → n < 1125899906842624 → R_ref15_Small_0 dd Prim.powG 281474976710656 m [so s] (.ptr (1, 0) 0) (i64 dn.length) (i64 n) .undef = if 200 ≤ sM s.Messages (sE r n) then some (bl false) else R_ref15_Small_3 dd Prim.powG 281474976710656 281474976710656 [so s] (i64 0) (.ptr (1, 0) 0) .undef) (by
    intro m n hn hn'
    rw [R_ref15_Small_0_s]
    have h0 := R_small1 s hb n hn (by omega)
    simp [X, Y, Z, k_ref15_Small_1, sE]
    exact h0) (by
    intro dn x r m he hi hx ih n hn hn'
    rw [R_ref15_Small_0_s]
    rw [List.length_append] at ih
    push_cast at ih
    have hs := wrap_succ (show dn.length < 4611686018427387904 by omega)
    obtain ⟨b1, b3⟩ := hb.en x (mem_at hx)
    unfold sE
    by_cases h2 : n < 200
    · have w1 := wrap_id (x := n + x.Values.length) (by omega) (by omega)
      have w3 := wrap_id (x := n + x.Values.length + (x.Name.size : Int) / 10) (by omega) (by omega)
      have w4 := wrap_id (x := (x.Name.size : Int) / 10) (by omega) (by omega)
      have := ih (n + x.Values.length + (x.Name.size : Int) / 10) (by omega) (by omega)
      simp [X, Y, Z, hi, xi_at hx, eE, k_ref15_Small_0, hs, h2, w1, w3, w4]
      simpa using this
    · have h0 := R_small1 s hb n hn (by omega)
      simp [X, Y, Z, hi, k_ref15_Small_1, h2]
      simpa using h0) 281474976710656 (by omega)
  exact h n0 h0 h1
def longV (v : Vl) : Bool := decide ((1000 : Int) < v.Name.size)
def longF (f : Fld) : Bool := decide ((1000 : Int) < f.Name.size) || (decide ((1000 : Int) < f.Ref.size) || decide ((1000 : Int) < f.One.size))
abbrev big : Nat := 281474976710656
theorem R_small4 (s : Sch) (hb : SchB s) (m5 i : Nat) (e : Ms) (hx : s.Messages[i]? = some e) : R_ref15_Small_4 dd Prim.powG 281474976710656 281474976710656 m5 [so s] (i64 i) (.ptr (1, 0) 0) (i64 0) = if e.Fields.any longF = true then some (bl false) else R_ref15_Small_5 dd Prim.powG 281474976710656 m5 [so s] (i64 ((i : Int) + 1)) (.ptr (1, 0) 0) := by
  have hml := hb.ml
  have hi' : i < 281474976710656 := by have := (List.getElem?_eq_some_iff.1 hx).1; omega
  have hs' := wrap_succ (show i < 4611686018427387904 by omega)
  have hf := (hb.ms e (mem_at hx)).1
  have h := loop_acc e.Fields (P := fun dn r m => R_ref15_Small_4 dd Prim.powG 281474976710656 m m5 [so s] (i64 i) (.ptr (1, 0) 0) (i64 dn.length) = if r.any longF = true then some (bl false) else R_ref15_Small_5 dd Prim.powG 281474976710656 m5 [so s] (i64 ((i : Int) + 1)) (.ptr (1, 0) 0)) (by
    intro m
    rw [R_ref15_Small_4_s]
    simp [X, Y, Z, xi_at hx, eM, k_ref15_Small_5, hs']) (by
    intro dn x r m he hi hy ih
    rw [R_ref15_Small_4_s]
    rw [List.length_append] at ih
    push_cast at ih
    have hs := wrap_succ (show dn.length < 4611686018427387904 by omega)
    rw [List.any_cons]
    cases q1 : decide ((1000 : Int) < x.Name.size) <;> cases q2 : decide ((1000 : Int) < x.Ref.size) <;> cases q3 : decide ((1000 : Int) < x.One.size)
    · rw [show longF x = false by unfold longF; rw [q1, q2, q3]; rfl]
      simp [X, Y, Z, hi, xi_at hx, xi_at hy, eM, Fld.cells, k_ref15_Small_4, hs, q1, q2, q3]
      simpa using ih
    all_goals (
      rw [show longF x = true by unfold longF; rw [q1, q2, q3]; rfl]
      simp [X, Y, Z, hi, xi_at hx, xi_at hy, eM, Fld.cells, k_ref15_Small_4, hs, q1, q2, q3])) 281474976710656 (by omega)
  exact h
theorem R_small5 (s : Sch) (hb : SchB s) : R_ref15_Small_5 dd Prim.powG 281474976710656 281474976710656 [so s] (i64 0) (.ptr (1, 0) 0) = some (bl (!s.Messages.any fun m => m.Fields.any longF)) := by
  have hml := hb.ml
  have h := loop_acc s.Messages (P := fun dn r m => R_ref15_Small_5 dd Prim.powG 281474976710656 m [so s] (i64 dn.length) (.ptr (1, 0) 0) = some (bl (!r.any fun m => m.Fields.any longF))) (by
    intro m
    rw [R_ref15_Small_5_s]
    simp [X, Y, Z]) (by
    intro dn x r m he hi hx ih
    rw [R_ref15_Small_5_s]
    rw [List.length_append] at ih
    push_cast at ih
    have h0 := R_small4 s hb m dn.length x hx
    simp [X, Y, Z, hi, k_ref15_Small_4]
    rw [h0]
    cases hc : x.Fields.any longF <;> simp
    simpa using ih) 281474976710656 (by omega)
  exact h
theorem R_small2 (s : Sch) (hb : SchB s) (m3 i : Nat) (e : En) (hx : s.Enums[i]? = some e) : R_ref15_Small_2 dd Prim.powG 281474976710656 281474976710656 m3 [so s] (i64 i) (.ptr (1, 0) 0) (i64 0) .undef = if e.Values.any longV = true then some (bl false) else R_ref15_Small_3 dd Prim.powG 281474976710656 m3 [so s] (i64 ((i : Int) + 1)) (.ptr (1, 0) 0) .undef := by
  have hml := hb.el
  have hi' : i < 281474976710656 := by have := (List.getElem?_eq_some_iff.1 hx).1; omega
  have hs' := wrap_succ (show i < 4611686018427387904 by omega)
  have hf := (hb.en e (mem_at hx)).1
  have h := loop_acc e.Values (P := fun dn r m => R_ref15_Small_2 dd Prim.powG 281474976710656 m m3 [so s] (i64 i) (.ptr (1, 0) 0) (i64 dn.length) .undef = if r.any longV = true then some (bl false) else R_ref15_Small_3 dd Prim.powG 281474976710656 m3 [so s] (i64 ((i : Int) + 1)) (.ptr (1, 0) 0) .undef) (by
    intro m
    rw [R_ref15_Small_2_s]
    simp [X, Y, Z, xi_at hx, eE, k_ref15_Small_3, hs']) (by
    intro dn x r m he hi hy ih
    rw [R_ref15_Small_2_s]
    rw [List.length_append] at ih
    push_cast at ih
    have hs := wrap_succ (show dn.length < 4611686018427387904 by omega)
    rw [List.any_cons]
    by_cases q1 : (1000 : Int) < x.Name.size
    · rw [show longV x = true by unfold longV; rw [decide_eq_true_eq]; exact q1]
      simp [X, Y, Z, hi, xi_at hx, xi_at hy, eE, eV, k_ref15_Small_2, hs, q1]
    · rw [show longV x = false by unfold longV; rw [decide_eq_false_iff_not]; exact q1]
      simp [X, Y, Z, hi, xi_at hx, xi_at hy, eE, eV, k_ref15_Small_2, hs, q1]
      simpa using ih) 281474976710656 (by omega)
  exact h
theorem R_small3 (s : Sch) (hb : SchB s) : R_ref15_Small_3 dd Prim.powG 281474976710656 281474976710656 [so s] (i64 0) (.ptr (1, 0) 0) .undef = some (bl (!(s.Enums.any fun e => e.Values.any longV) && !s.Messages.any fun m => m.Fields.any longF)) := by
  have hml := hb.el
  have h := loop_acc s.Enums (P := fun dn r m => R_ref15_Small_3 dd Prim.powG 281474976710656 m [so s] (i64 dn.length) (.ptr (1, 0) 0) .undef = some (bl (!(r.any fun e => e.Values.any longV) && !s.Messages.any fun m => m.Fields.any longF))) (by
    intro m
    rw [R_ref15_Small_3_s]
    have h0 := R_small5 s hb
    simp [X, Y, Z, k_ref15_Small_5]
    exact h0) (by
    intro dn x r m he hi hx ih
    rw [R_ref15_Small_3_s]
    rw [List.length_append] at ih
    push_cast at ih
    have h0 := R_small2 s hb m dn.length x hx
    simp [X, Y, Z, hi, k_ref15_Small_2]
    rw [h0]
    cases hc : x.Values.any longV <;> simp
    simpa using ih) 281474976710656 (by omega)
  exact h
def smallF (s : Sch) : Bool := !decide (200 ≤ sM s.Messages (sE s.Enums ((s.Enums.length : Int) + s.Messages.length))) && (!(s.Enums.any fun e => e.Values.any longV) && !s.Messages.any fun m => m.Fields.any longF)
theorem d_rSmall (s : Sch) (hb : SchB s) : dd i_ref15_Small [sch s] = some (bl (smallF s)) := by
  refine D_runE (V := v_ref15_Small) 281474976710656 rfl rfl rfl ?_
  rw [s_ref15_Small]
  have b1 := hb.el
  have b2 := hb.ml
  have h0 := R_small0 s hb ((s.Enums.length : Int) + s.Messages.length) (by omega) (by omega)
  rw [R_small3 s hb] at h0
  have w := wrap_id (x := (s.Enums.length : Int) + s.Messages.length) (by omega) (by omega)
  simp [X, Y, Z, k_ref15_Small_0, w]
  refine h0.trans ?_
  unfold smallF
  by_cases h : 200 ≤ sM s.Messages (sE s.Enums ((s.Enums.length : Int) + s.Messages.length)) <;> simp [h]
theorem sE_ge : ∀ (l : List En) (n : Int), n ≤ sE l n
  | [], n => Int.le_refl _
  | e :: r, n => by
    unfold sE
    split
    · have := sE_ge r (n + e.Values.length + (e.Name.size : Int) / 10); omega
    · exact Int.le_refl _
theorem sE_all : ∀ (l : List En) (n : Int), 0 ≤ n → sE l n < 200 → ∀ e ∈ l, e.Values.length < 1000 ∧ e.Name.size ≤ 2010
  | [], _, _, _, e, h => by cases h
  | x :: r, n, hn, h, e, he => by
    unfold sE at h
    split at h
    · have h1 := sE_ge r (n + x.Values.length + (x.Name.size : Int) / 10)
      rcases List.mem_cons.1 he with rfl | he
      · omega
      · exact sE_all r _ (by omega) h e he
    · omega
theorem sM_ge : ∀ (l : List Ms) (n : Int), n ≤ sM l n
  | [], n => Int.le_refl _
  | e :: r, n => by
    unfold sM
    split
    · have := sM_ge r (n + e.Fields.length + e.Barred.length + (e.Name.size : Int) / 10); omega
    · exact Int.le_refl _
theorem sM_all : ∀ (l : List Ms) (n : Int), 0 ≤ n → sM l n < 200 → ∀ e ∈ l, e.Fields.length < 1000 ∧ e.Barred.length < 1000 ∧ e.Name.size ≤ 2010
  | [], _, _, _, e, h => by cases h
  | x :: r, n, hn, h, e, he => by
    unfold sM at h
    split at h
    · have h1 := sM_ge r (n + x.Fields.length + x.Barred.length + (x.Name.size : Int) / 10)
      rcases List.mem_cons.1 he with rfl | he
      · omega
      · exact sM_all r _ (by omega) h e he
    · omega
theorem small_tx (s : Sch) (h : smallF s = true) : SchTx s := by
  unfold smallF at h
  rw [Bool.and_eq_true, Bool.and_eq_true] at h
  have h1 : sM s.Messages (sE s.Enums ((s.Enums.length : Int) + s.Messages.length)) < 200 := by
    have := h.1; simp at this; omega
  have h2 := sM_ge s.Messages (sE s.Enums ((s.Enums.length : Int) + s.Messages.length))
  have h3 := sE_ge s.Enums ((s.Enums.length : Int) + s.Messages.length)
  have h4 := sE_all s.Enums ((s.Enums.length : Int) + s.Messages.length) (by omega) (by omega)
  have h5 := sM_all s.Messages _ (by omega) h1
  have h6 := h.2.1
  have h7 := h.2.2
  simp only [Bool.not_eq_true'] at h6 h7
  refine ⟨⟨by omega, by omega, fun e he => (h4 e he).1, fun m hm => (h5 m hm).1, fun m hm => (h5 m hm).2.1⟩, fun e he => ⟨(h4 e he).2, (h4 e he).1, fun v hv => ?_⟩, fun m hm => ⟨(h5 m hm).2.2, (h5 m hm).1, (h5 m hm).2.1, fun f hf => ?_⟩⟩
  · have a := List.any_eq_false.1 h6 e he
    have b := List.any_eq_false.1 (by simpa using a) v hv
    unfold longV at b
    simp at b
    omega
  · have a := List.any_eq_false.1 h7 m hm
    have b := List.any_eq_false.1 (by simpa using a) f hf
    unfold longF at b
    simp at b
    omega
def F1 : Fld := ⟨⟨#[97]⟩, 1, 1, noS, false, false, ⟨#[111]⟩⟩
def M1 : Ms := ⟨⟨#[77]⟩, [F1], []⟩
theorem F1_text : textF F1 = ⟨#[105, 110, 116, 51, 50, 32, 97, 32, 61, 32, 49, 59]⟩ := by
  unfold textF
  rw [if_pos (show checkF F1 = 0 by kernel_rfl)]
  have e : digF (IntKind.u64.wrap F1.Num) false = ⟨#[49]⟩ := by
    have : IntKind.u64.wrap F1.Num = 1 := by decide
    rw [this]
    simp [digF, digU, Lib.decDigits_one]
  unfold textB
  rw [e]
  exact ba_eq (by decide +kernel)
theorem M1_text : bsL (msgL M1) = ⟨#[109, 101, 115, 115, 97, 103, 101, 32, 77, 32, 123, 10, 32, 32, 111, 110, 101, 111, 102, 32, 111, 32, 105, 110, 116, 51, 50, 32, 97, 32, 61, 32, 49, 59, 10, 125, 10]⟩ := by
  have e : fldL F1 = [32, 32, 111, 110, 101, 111, 102, 32, 111, 32, 105, 110, 116, 51, 50, 32, 97, 32, 61, 32, 49, 59, 10] := by
    unfold fldL
    rw [F1_text]
    kernel_rfl
  have e2 : M1.Fields.flatMap fldL = fldL F1 := by simp [M1]
  unfold msgL
  rw [e2, e]
  exact ba_eq (by decide +kernel)
theorem d_live : dd i_law17_live [] = some (bl true) := by
  refine D_runE (V := v_law17_live) 1 rfl rfl rfl ?_
  rw [s_law17_live]
  have e1 := d_sMsg M1 (by
    refine ⟨by decide, by decide, by decide, fun f hf => ?_⟩
    have : f = F1 := by simpa [M1] using hf
    subst this
    decide)
  rw [M1_text] at e1
  have e1 : dd i_sprint_Message [.agg [st ⟨#[77]⟩, .fsl [[st ⟨#[97]⟩, i64 1, i64 1, st ⟨#[]⟩, bl false, bl false, st ⟨#[111]⟩]], .fsl []]] = some (st ⟨#[109, 101, 115, 115, 97, 103, 101, 32, 77, 32, 123, 10, 32, 32, 111, 110, 101, 111, 102, 32, 111, 32, 105, 110, 116, 51, 50, 32, 97, 32, 61, 32, 49, 59, 10, 125, 10]⟩) := e1
  simp [X, Y, Z, e1]
theorem R_texts1 (s : Sch) (h : SchTx s) (N m : Nat) (hm : s.Enums.length < m) : R_law17_SprintTexts_1 dd Prim.powG N m [so s] (.ptr (1, 0) 0) (i64 0) = some (bl true) := by
  have o1 := h.ok.enums
  have key := loop_acc s.Enums (P := fun dn r m => R_law17_SprintTexts_1 dd Prim.powG N m [so s] (.ptr (1, 0) 0) (i64 dn.length) = some (bl true)) (by
    intro m
    rw [R_law17_SprintTexts_1_s]
    simp [X, Y, Z, d_sText s h, d_rTextS s h, d_live]) (by
    intro dn x r m he hi hx ih
    rw [R_law17_SprintTexts_1_s]
    rw [List.length_append] at ih
    push_cast at ih
    have hs := wrap_succ (show dn.length < 4611686018427387904 by omega)
    have e1 := d_sEnum x (h.en x (mem_at hx))
    have e2 := d_rEnumT x (h.en x (mem_at hx))
    simp [X, Y, Z, hi, xi_at hx, e1, e2, k_law17_SprintTexts_1, hs]
    simpa using ih) m hm
  exact key
theorem d_SprintTexts (s : Sch) (hb : SchB s) : dd i_law17_SprintTexts [sch s] = some (bl true) := by
  refine D_runE (V := v_law17_SprintTexts) 1001 rfl rfl rfl ?_
  rw [s_law17_SprintTexts]
  have e0 := d_rSmall s hb
  cases h : smallF s <;> rw [h] at e0
  · simp [X, Y, Z, e0, d_live]
  · have ok := small_tx s h
    have o1 := ok.ok.messages
    have o2 := ok.ok.enums
    have key := loop_acc s.Messages (P := fun dn r m => R_law17_SprintTexts_0 dd Prim.powG 1001 m [so s] (.ptr (1, 0) 0) (i64 dn.length) = some (bl true)) (by
      intro m
      have h1 := R_texts1 s ok 1001 1001 (by omega)
      rw [R_law17_SprintTexts_0_s]
      simp [X, Y, Z, k_law17_SprintTexts_1]
      exact h1) (by
      intro dn x r m he hi hx ih
      rw [R_law17_SprintTexts_0_s]
      rw [List.length_append] at ih
      push_cast at ih
      have hs := wrap_succ (show dn.length < 4611686018427387904 by omega)
      have e1 := d_sMsg x (ok.ms x (mem_at hx))
      have e2 := d_rMsgT x (ok.ms x (mem_at hx))
      simp [X, Y, Z, hi, xi_at hx, e1, e2, k_law17_SprintTexts_0, hs]
      simpa using ih) 1001 (by omega)
    simp [X, Y, Z, e0, k_law17_SprintTexts_0]
    exact key
theorem textS_ne (s : Sch) (h : rCheckF s = 0) : textS s ≠ noS := by
  unfold textS
  rw [if_pos h]
  intro e
  have := congrArg (fun b : ByteArray => b.data.toList) e
  simp only [bsL_data] at this
  exact textL_ne s (good_of s h) this
theorem textS_inj (s t : Sch) (hs : rCheckF s = 0) (ht : rCheckF t = 0) : decide (textS s = textS t) = decide (s = t) := by
  rw [decide_eq_decide]
  refine ⟨fun h => ?_, fun h => by rw [h]⟩
  unfold textS at h
  rw [if_pos hs, if_pos ht] at h
  have := congrArg (fun b : ByteArray => b.data.toList) h
  simp only [bsL_data] at this
  exact textL_inj s t (good_of s hs) (good_of t ht) this
theorem d_SprintOne (a b : Sch) (ha : SchB a) (hb : SchB b) : dd i_law17_SprintOne [sch a, sch b] = some (bl true) := by
  refine D_runE (V := v_law17_SprintOne) 1 rfl rfl rfl ?_
  rw [s_law17_SprintOne]
  have e0 := d_rSmall a ha
  have e1 := d_rSmall b hb
  cases h : smallF a <;> rw [h] at e0
  · simp [X, Y, Z, e0, d_live]
  · cases h' : smallF b <;> rw [h'] at e1
    · simp [X, Y, Z, e0, e1, d_live]
    · have oka := small_tx a h
      have okb := small_tx b h'
      have c1 := d_rCheckS a oka.ok
      have c2 := d_rCheckS b okb.ok
      by_cases q1 : rCheckF a = 0
      · by_cases q2 : rCheckF b = 0
        · rw [q1] at c1
          rw [q2] at c2
          have t1 := d_sText a oka
          have t2 := d_sText b okb
          have t3 := d_rSame a b oka.ok okb.ok
          rw [← textS_inj a b q1 q2] at t3
          have hne := textS_ne a q1
          generalize textS a = x at t1 t3 hne
          generalize textS b = y at t2 t3
          cases q3 : decide (x = y) <;> rw [q3] at t3 <;> simp [X, Y, Z, e0, e1, c1, c2, t1, t2, t3, q3, hne, d_live]
        · rw [q1] at c1
          simp [X, Y, Z, e0, e1, c1, c2, q2, d_live]
      · simp [X, Y, Z, e0, e1, c1, q1, d_live]
theorem R_parts1 (s : Sch) (h : SchTx s) (h0 : rCheckF s = 0) (N m : Nat) (hm : s.Messages.length < m) : R_law17_SprintParts_1 dd Prim.powG N m [so s] (.ptr (1, 0) 0) (i64 0) (st (bsL (s.Enums.flatMap enumL))) = some (bl true) := by
  have o1 := h.ok.messages
  have hlen := h.len
  have key := loop_acc s.Messages (P := fun dn r m => ∀ L, L = s.Enums.flatMap enumL ++ dn.flatMap msgL → R_law17_SprintParts_1 dd Prim.powG N m [so s] (.ptr (1, 0) 0) (i64 dn.length) (st (bsL L)) = some (bl true)) (by
    intro m L hL
    have e : textS s = bsL L := by rw [textS, if_pos h0, hL, textL]
    have hd := d_sText s h
    rw [e] at hd
    rw [R_law17_SprintParts_1_s]
    simp [X, Y, Z, hd, d_live]) (by
    intro dn x r m he hi hx ih L hL
    have hml := msgL_len x (h.ms x (mem_at hx))
    have e0 : textL s = L ++ (msgL x ++ r.flatMap msgL) := by rw [hL, textL, he]; simp [List.flatMap_append, List.append_assoc]
    have hll : L.length ≤ 5000000000 := by rw [e0, List.length_append] at hlen; omega
    have ih := ih (L ++ msgL x) (by rw [hL]; simp [List.flatMap_append, List.append_assoc])
    rw [List.length_append, List.length_cons, List.length_nil] at ih
    push_cast at ih
    have e1 : (bsL L).size + (bsL (msgL x)).size ≤ 9223372036854775807 := by rw [bsL_size, bsL_size]; omega
    have e2 : bsL L ++ bsL (msgL x) = bsL (L ++ msgL x) := by rw [bsL_app, bsL_data]
    have hd := d_sMsg x (h.ms x (mem_at hx))
    rw [R_law17_SprintParts_1_s]
    simp [X, Y, Z, hi, xi_at hx, hd, e1, e2, k_law17_SprintParts_1, wrap_succ (show dn.length < 4611686018427387904 by omega)]
    exact ih) m hm
  exact key _ (by simp)
theorem d_SprintParts (s : Sch) (hb : SchB s) : dd i_law17_SprintParts [sch s] = some (bl true) := by
  refine D_runE (V := v_law17_SprintParts) 1001 rfl rfl rfl ?_
  rw [s_law17_SprintParts]
  have e0 := d_rSmall s hb
  cases h : smallF s <;> rw [h] at e0
  · simp [X, Y, Z, e0, d_live]
  · have ok := small_tx s h
    have o1 := ok.ok.messages
    have o2 := ok.ok.enums
    have c1 := d_rCheckS s ok.ok
    by_cases h0 : rCheckF s = 0
    · rw [h0] at c1
      have hlen := ok.len
      have key := loop_acc s.Enums (P := fun dn r m => ∀ L, L = dn.flatMap enumL → R_law17_SprintParts_0 dd Prim.powG 1001 m [so s] (.ptr (1, 0) 0) (i64 dn.length) (st (bsL L)) = some (bl true)) (by
        intro m L hL
        have h1 := R_parts1 s ok h0 1001 1001 (by omega)
        rw [← hL] at h1
        rw [R_law17_SprintParts_0_s]
        simp [X, Y, Z, k_law17_SprintParts_1]
        exact h1) (by
        intro dn x r m he hi hx ih L hL
        have hml := enumL_len x (ok.en x (mem_at hx))
        have e0 : textL s = L ++ (enumL x ++ (r.flatMap enumL ++ s.Messages.flatMap msgL)) := by rw [hL, textL, he]; simp [List.flatMap_append, List.append_assoc]
        have hll : L.length ≤ 5000000000 := by rw [e0, List.length_append] at hlen; omega
        have ih := ih (L ++ enumL x) (by rw [hL]; simp [List.flatMap_append, List.append_assoc])
        rw [List.length_append, List.length_cons, List.length_nil] at ih
        push_cast at ih
        have e1 : (bsL L).size + (bsL (enumL x)).size ≤ 9223372036854775807 := by rw [bsL_size, bsL_size]; omega
        have e2 : bsL L ++ bsL (enumL x) = bsL (L ++ enumL x) := by rw [bsL_app, bsL_data]
        have hd := d_sEnum x (ok.en x (mem_at hx))
        rw [R_law17_SprintParts_0_s]
        simp [X, Y, Z, hi, xi_at hx, hd, e1, e2, k_law17_SprintParts_0, wrap_succ (show dn.length < 4611686018427387904 by omega)]
        exact ih) 1001 (by omega)
      simp [X, Y, Z, e0, c1, k_law17_SprintParts_0]
      exact key [] rfl
    · simp [X, Y, Z, e0, c1, h0, d_live]
end Go.Proofs.YtmhdapjmndfkgaaGreatDoor.Sp.B
