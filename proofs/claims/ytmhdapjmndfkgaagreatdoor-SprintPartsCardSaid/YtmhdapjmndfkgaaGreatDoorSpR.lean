/- Which schemas are the same. -/
import Derived.Test.YtmhdapjmndfkgaaGreatDoorSpG
namespace Go.Proofs.YtmhdapjmndfkgaaGreatDoor.Sp.B
open Go Go.Proofs.YtmhdapjmndfkgaaGreatDoor.Eng Go.Proofs.YtmhdapjmndfkgaaGreatDoor.Eng.V
set_option linter.unusedSimpArgs false
set_option linter.unusedVariables false
open Sp
open Sp.W (lt2 riseP sl xi_at wrap_succ wrap_nat wrap_pred)
instance : DecidableEq Vl := fun a b => decidable_of_iff (a.Name = b.Name ∧ a.Num = b.Num) ⟨fun h => by cases a; cases b; simp at h; simp [h], fun h => by subst h; exact ⟨rfl, rfl⟩⟩
instance : DecidableEq Fld := fun a b => decidable_of_iff (a.Name = b.Name ∧ a.Num = b.Num ∧ a.Ty = b.Ty ∧ a.Ref = b.Ref ∧ a.Rep = b.Rep ∧ a.Loose = b.Loose ∧ a.One = b.One) ⟨fun h => by cases a; cases b; simp at h; simp [h], fun h => by subst h; exact ⟨rfl, rfl, rfl, rfl, rfl, rfl, rfl⟩⟩
instance : DecidableEq En := fun a b => decidable_of_iff (a.Name = b.Name ∧ a.Values = b.Values) ⟨fun h => by cases a; cases b; simp at h; simp [h], fun h => by subst h; exact ⟨rfl, rfl⟩⟩
instance : DecidableEq Ms := fun a b => decidable_of_iff (a.Name = b.Name ∧ a.Fields = b.Fields ∧ a.Barred = b.Barred) ⟨fun h => by cases a; cases b; simp at h; simp [h], fun h => by subst h; exact ⟨rfl, rfl, rfl⟩⟩
instance : DecidableEq Sch := fun a b => decidable_of_iff (a.Enums = b.Enums ∧ a.Messages = b.Messages) ⟨fun h => by cases a; cases b; simp at h; simp [h], fun h => by subst h; exact ⟨rfl, rfl⟩⟩
theorem eqV_i (v w : Vl) : (decide (v.Name = w.Name) && decide (v.Num = w.Num)) = decide (v = w) := by
  rw [Bool.eq_iff_iff]
  simp only [Bool.and_eq_true, decide_eq_true_eq]
  exact ⟨fun h => by cases v; cases w; simp at h; simp [h], fun h => by subst h; exact ⟨rfl, rfl⟩⟩
theorem eqF_i (v w : Fld) : (decide (v.Name = w.Name) && (decide (v.Num = w.Num) && (decide (v.Ty = w.Ty) && (decide (v.Ref = w.Ref) && ((v.Rep == w.Rep) && ((v.Loose == w.Loose) && decide (v.One = w.One))))))) = decide (v = w) := by
  rw [Bool.eq_iff_iff]
  simp only [Bool.and_eq_true, decide_eq_true_eq, beq_iff_eq]
  exact ⟨fun h => by cases v; cases w; simp at h; simp [h], fun h => by subst h; exact ⟨rfl, rfl, rfl, rfl, rfl, rfl, rfl⟩⟩
/-- A loop over two lists of one length. -/
theorem loop_two {α β : Type} {P : Nat → List α → List β → Nat → Prop} (xs : List α) (ys : List β) (hl : xs.length = ys.length) (h0 : ∀ m, P xs.length [] [] (m + 1)) (h1 : ∀ (i : Nat) (x : α) (r : List α) (y : β) (q : List β) (m : Nat), i < xs.length → xs[i]? = some x → ys[i]? = some y → P (i + 1) r q m → P i (x :: r) (y :: q) (m + 1)) : ∀ m, xs.length < m → P 0 xs ys m := by
  have key : ∀ (r : List α) (q : List β) (dn : List α) (dm : List β) (m : Nat), xs = dn ++ r → ys = dm ++ q → dn.length = dm.length → r.length < m → P dn.length r q m := by
    intro r
    induction r with
    | nil =>
      intro q dn dm m he hf hd hm
      obtain ⟨m, rfl⟩ : ∃ k, m = k + 1 := ⟨m - 1, by omega⟩
      rw [he, hf, List.length_append, List.length_append, List.length_nil] at hl
      have hq : q = [] := List.length_eq_zero_iff.1 (by omega)
      subst hq
      rw [List.append_nil] at he
      rw [← he]
      exact h0 m
    | cons x r ih =>
      intro q dn dm m he hf hd hm
      obtain ⟨m, rfl⟩ : ∃ k, m = k + 1 := ⟨m - 1, by omega⟩
      rw [List.length_cons] at hm
      cases q with
      | nil => rw [he, hf, List.length_append, List.length_append, List.length_cons, List.length_nil] at hl; omega
      | cons y q =>
        have := ih q (dn ++ [x]) (dm ++ [y]) m (by rw [he, List.append_assoc]; rfl) (by rw [hf, List.append_assoc]; rfl) (by simp [hd]) (by omega)
        rw [List.length_append, List.length_cons, List.length_nil] at this
        refine h1 dn.length x r y q m ?_ ?_ ?_ this
        · rw [he, List.length_append, List.length_cons]; omega
        · rw [he, List.getElem?_append_right (Nat.le_refl _), Nat.sub_self]; rfl
        · rw [hd, hf, List.getElem?_append_right (Nat.le_refl _), Nat.sub_self]; rfl
  intro m hm
  exact key xs ys [] [] m rfl rfl rfl hm
theorem dec_cons {α : Type} [DecidableEq α] (x y : α) (r q : List α) : decide (x :: r = y :: q) = (decide (x = y) && decide (r = q)) := by
  rw [Bool.eq_iff_iff]
  simp
theorem dec_len {α : Type} [DecidableEq α] (a b : List α) (h : a.length ≠ b.length) : decide (a = b) = false := decide_eq_false fun e => h (by rw [e])
theorem d_Ints (a b : List Int) (ha : a.length < 4000000000) (hb : b.length < 4000000000) : dd i_ref01_Ints [.fsl (a.map eI), .fsl (b.map eI)] = some (bl (decide (a = b))) := by
  refine D_runE (V := v_ref01_Ints) (a.length + 1) rfl rfl rfl ?_
  rw [s_ref01_Ints]
  by_cases hl : a.length = b.length
  · have h := loop_two (P := fun i r q m => R_ref01_Ints_0 dd Prim.powG (a.length + 1) m [] (.fsl (b.map eI)) (.fsl (a.map eI)) (i64 i) = some (bl (decide (r = q)))) a b hl (by
      intro m
      rw [R_ref01_Ints_0_s]
      simp [X, Y, Z]) (by
      intro i x r y q m hi hx hy ih
      rw [R_ref01_Ints_0_s]
      push_cast at ih
      rw [dec_cons]
      have hs := wrap_succ (show i < 4611686018427387904 by omega)
      cases h1 : decide (x = y) <;> simp [X, Y, Z, hi, xi_at hx, xi_at hy, h1, k_ref01_Ints_0, hs, ih]) (a.length + 1) (by omega)
    have hl' : (a.length : Int) = b.length := by omega
    simp [X, Y, Z, hl', k_ref01_Ints_0]
    exact h
  · rw [dec_len a b hl]
    have hl' : ¬ (a.length : Int) = b.length := by omega
    simp [X, Y, Z, hl']
theorem d_SameMessage (a b : Ms) (ha : a.Fields.length < 1000 ∧ a.Barred.length < 1000) (hb : b.Fields.length < 1000 ∧ b.Barred.length < 1000) : dd i_ref15_SameMessage [aM a, aM b] = some (bl (decide (a = b))) := by
  refine D_runE (V := v_ref15_SameMessage) (a.Fields.length + 1) rfl rfl rfl ?_
  rw [s_ref15_SameMessage]
  have hi := d_Ints a.Barred b.Barred (by omega) (by omega)
  have e0 : decide (a = b) = (decide (a.Name = b.Name) && (decide (a.Barred = b.Barred) && decide (a.Fields = b.Fields))) := by
    rw [Bool.eq_iff_iff]
    simp only [Bool.and_eq_true, decide_eq_true_eq]
    exact ⟨fun h => by subst h; exact ⟨rfl, rfl, rfl⟩, fun h => by cases a; cases b; simp at h; simp [h]⟩
  rw [e0]
  cases h1 : decide (a.Name = b.Name)
  · simp [X, Y, Z, h1]
  · cases h2 : decide (a.Barred = b.Barred) <;> rw [h2] at hi
    · simp [X, Y, Z, h1, hi]
    · by_cases hl : a.Fields.length = b.Fields.length
      · have hl' : (a.Fields.length : Int) = b.Fields.length := by omega
        have h := loop_two (P := fun i r q m => R_ref15_SameMessage_0 dd Prim.powG (a.Fields.length + 1) m [((2, 0), .var (eM a) false), ((3, 0), .var (eM b) false)] (.ptr (3, 0) 0) (.ptr (2, 0) 0) (i64 i) = some (bl (decide (r = q)))) a.Fields b.Fields hl (by
          intro m
          rw [R_ref15_SameMessage_0_s]
          simp [X, Y, Z]) (by
          intro i x r y q m hi hx hy ih
          rw [R_ref15_SameMessage_0_s]
          push_cast at ih
          rw [dec_cons]
          have hs := wrap_succ (show i < 4611686018427387904 by omega)
          have e1 := eqF_i x y
          cases h1 : decide (x = y) <;> rw [h1] at e1 <;> simp [X, Y, Z, hi, xi_at hx, xi_at hy, e1, k_ref15_SameMessage_0, hs, ih]) (a.Fields.length + 1) (by omega)
        simp [X, Y, Z, h1, hi, hl', k_ref15_SameMessage_0]
        exact h
      · have hl' : ¬ (a.Fields.length : Int) = b.Fields.length := by omega
        rw [dec_len _ _ hl]
        simp [X, Y, Z, h1, hi, hl']
abbrev so2 (a b : Sch) : Objs := [((2, 0), .var [.fsl (a.Enums.map eE), .fsl (a.Messages.map eM)] false), ((3, 0), .var [.fsl (b.Enums.map eE), .fsl (b.Messages.map eM)] false)]
theorem R_same2 (a b : Sch) (oka : SchOk a) (okb : SchOk b) (hl : a.Messages.length = b.Messages.length) (N m : Nat) (hm : a.Messages.length < m) : R_ref15_Same_2 dd Prim.powG N m (so2 a b) (.ptr (3, 0) 0) (.ptr (2, 0) 0) (i64 0) = some (bl (decide (a.Messages = b.Messages))) := by
  have o1 := oka.messages
  have h := loop_two (P := fun i r q m => R_ref15_Same_2 dd Prim.powG N m (so2 a b) (.ptr (3, 0) 0) (.ptr (2, 0) 0) (i64 i) = some (bl (decide (r = q)))) a.Messages b.Messages hl (by
    intro m
    rw [R_ref15_Same_2_s]
    simp [X, Y, Z]) (by
    intro i x r y q m hi hx hy ih
    rw [R_ref15_Same_2_s]
    push_cast at ih
    rw [dec_cons]
    have hs := wrap_succ (show i < 4611686018427387904 by omega)
    have e1 := d_SameMessage x y ⟨oka.mf x (mem_at hx), oka.mb x (mem_at hx)⟩ ⟨okb.mf y (mem_at hy), okb.mb y (mem_at hy)⟩
    cases h1 : decide (x = y) <;> rw [h1] at e1 <;> simp [X, Y, Z, hi, xi_at hx, xi_at hy, e1, k_ref15_Same_2, hs, ih]) m hm
  exact h
theorem R_same0 (a b : Sch) (i : Nat) (e g : En) (hx : a.Enums[i]? = some e) (hy : b.Enums[i]? = some g) (hle : e.Values.length = g.Values.length) (he : e.Values.length < 1000) (hi : i < 1000) (N m m1 : Nat) (hm : e.Values.length < m) : R_ref15_Same_0 dd Prim.powG N m m1 (so2 a b) (i64 i) (.ptr (3, 0) 0) (.ptr (2, 0) 0) (i64 0) = if decide (e.Values = g.Values) = true then R_ref15_Same_1 dd Prim.powG N m1 (so2 a b) (i64 (i + 1)) (.ptr (3, 0) 0) (.ptr (2, 0) 0) else some (bl false) := by
  have hs' := wrap_succ (show i < 4611686018427387904 by omega)
  have h := loop_two (P := fun k r q m => R_ref15_Same_0 dd Prim.powG N m m1 (so2 a b) (i64 i) (.ptr (3, 0) 0) (.ptr (2, 0) 0) (i64 k) = if decide (r = q) = true then R_ref15_Same_1 dd Prim.powG N m1 (so2 a b) (i64 (i + 1)) (.ptr (3, 0) 0) (.ptr (2, 0) 0) else some (bl false)) e.Values g.Values hle (by
    intro m
    rw [R_ref15_Same_0_s]
    simp [X, Y, Z, xi_at hx, k_ref15_Same_1, hs']) (by
    intro k x r y q m hk hx' hy' ih
    rw [R_ref15_Same_0_s]
    push_cast at ih
    rw [dec_cons]
    have hs := wrap_succ (show k < 4611686018427387904 by omega)
    have e1 := eqV_i x y
    cases h1 : decide (x = y) <;> rw [h1] at e1 <;> simp [X, Y, Z, hk, xi_at hx, xi_at hy, xi_at hx', xi_at hy', e1, k_ref15_Same_0, hs, ih]) m hm
  exact h
theorem d_rSame (a b : Sch) (oka : SchOk a) (okb : SchOk b) : dd i_ref15_Same [sch a, sch b] = some (bl (decide (a = b))) := by
  refine D_runE (V := v_ref15_Same) 1001 rfl rfl rfl ?_
  rw [s_ref15_Same]
  have o1 := oka.enums
  have o2 := oka.messages
  have e0 : decide (a = b) = (decide (a.Enums = b.Enums) && decide (a.Messages = b.Messages)) := by
    rw [Bool.eq_iff_iff]
    simp only [Bool.and_eq_true, decide_eq_true_eq]
    exact ⟨fun h => by subst h; exact ⟨rfl, rfl⟩, fun h => by cases a; cases b; simp at h; simp [h]⟩
  rw [e0]
  by_cases hl : a.Enums.length = b.Enums.length
  · have hl' : (a.Enums.length : Int) = b.Enums.length := by omega
    by_cases hk : a.Messages.length = b.Messages.length
    · have hk' : (a.Messages.length : Int) = b.Messages.length := by omega
      have h2 := R_same2 a b oka okb hk 1001 1001 (by omega)
      have h := loop_two (P := fun i r q m => R_ref15_Same_1 dd Prim.powG 1001 m (so2 a b) (i64 i) (.ptr (3, 0) 0) (.ptr (2, 0) 0) = some (bl (decide (r = q) && decide (a.Messages = b.Messages)))) a.Enums b.Enums hl (by
        intro m
        rw [R_ref15_Same_1_s]
        simp [X, Y, Z, k_ref15_Same_2]
        exact h2) (by
        intro i x r y q m hi hx hy ih
        rw [R_ref15_Same_1_s]
        push_cast at ih
        have hxe : decide (x = y) = (decide (x.Name = y.Name) && decide (x.Values = y.Values)) := by
          rw [Bool.eq_iff_iff]
          simp only [Bool.and_eq_true, decide_eq_true_eq]
          exact ⟨fun h => by subst h; exact ⟨rfl, rfl⟩, fun h => by cases x; cases y; simp at h; simp [h]⟩
        rw [dec_cons, hxe]
        have ox := oka.en x (mem_at hx)
        cases q1 : decide (x.Name = y.Name)
        · simp [X, Y, Z, hi, xi_at hx, xi_at hy, q1]
        · by_cases q2 : x.Values.length = y.Values.length
          · have q2' : (x.Values.length : Int) = y.Values.length := by omega
            have h0 := R_same0 a b i x y hx hy q2 ox (by omega) 1001 1001 m (by omega)
            cases q3 : decide (x.Values = y.Values) <;> rw [q3] at h0
            · simp [X, Y, Z, hi, xi_at hx, xi_at hy, q1, q2', k_ref15_Same_0]
              simpa using h0
            · simp [X, Y, Z, hi, xi_at hx, xi_at hy, q1, q2', k_ref15_Same_0]
              rw [if_pos rfl] at h0
              rw [← ih]
              exact h0
          · have q2' : ¬ (x.Values.length : Int) = y.Values.length := by omega
            rw [dec_len _ _ q2]
            simp [X, Y, Z, hi, xi_at hx, xi_at hy, q1, q2']) 1001 (by omega)
      simp [X, Y, Z, hl', hk', k_ref15_Same_1]
      exact h
    · have hk' : ¬ (a.Messages.length : Int) = b.Messages.length := by omega
      rw [dec_len _ _ hk]
      simp [X, Y, Z, hl', hk']
  · have hl' : ¬ (a.Enums.length : Int) = b.Enums.length := by omega
    rw [dec_len _ _ hl]
    simp [X, Y, Z, hl']
end Go.Proofs.YtmhdapjmndfkgaaGreatDoor.Sp.B
