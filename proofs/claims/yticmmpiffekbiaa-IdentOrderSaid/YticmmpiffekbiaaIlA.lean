/- Which lists of texts rise, and which have each once. -/
import Derived.Test.YticmmpiffekbiaaIlT
import Derived.Test.YticmmpiffekbiaaOnce
import Derived.Test.YticmmpiffekbiaaEng5
namespace Go.Proofs.Yticmmpiffekbiaa.Il
open Go Go.Proofs.Yticmmpiffekbiaa.Eng Go.Proofs.Yticmmpiffekbiaa.Eng.V
set_option linter.unusedSimpArgs false
set_option linter.unusedVariables false
noncomputable abbrev dd : Eng.Call := D defs Prim.primsO (fun _ => .undef)
abbrev i64 (n : Int) : AV := .v (.int .i64 n)
abbrev u64 (n : Int) : AV := .v (.int .u64 n)
abbrev bl (b : Bool) : AV := .v (.bool b)
abbrev st (s : ByteArray) : AV := .v (.string s)
open Il.W (lt2 riseP sl xi_at wrap_succ wrap_nat)
theorem R_rise (l : List ByteArray) (hw : l.length < 4611686018427387904) (N : Nat) : ∀ (d i m : Nat) (p : ByteArray), l.length - (i + 1) = d → d < m → l[i]? = some p → R_ident_Rise_0 dd (fun _ => .undef) N m [] (sl l) (sl l) (i64 l.length) (i64 ((i : Int) + 1)) = some (bl (riseP (some p) (l.drop (i + 1)))) := by
  intro d
  induction d with
  | zero =>
    intro i m p hd hm hp
    obtain ⟨m, rfl⟩ : ∃ k, m = k + 1 := ⟨m - 1, by omega⟩
    rw [R_ident_Rise_0_s]
    have h1 : ¬ ((i : Int) + 1 < (l.length : Int)) := by omega
    have h2 : l.drop (i + 1) = [] := List.drop_of_length_le (by omega)
    simp [X, Y, Z, h1, h2, riseP]
  | succ d ih =>
    intro i m p hd hm hp
    obtain ⟨m, rfl⟩ : ∃ k, m = k + 1 := ⟨m - 1, by omega⟩
    rw [R_ident_Rise_0_s]
    have hi : i + 1 < l.length := by omega
    have h1 : (i : Int) + 1 < (l.length : Int) := by omega
    have h0 : (0 : Int) < (i : Int) + 1 := by omega
    have h2 : l.drop (i + 1) = l[i + 1] :: l.drop (i + 1 + 1) := List.drop_eq_getElem_cons hi
    have h3 : l[i + 1]? = some l[i + 1] := List.getElem?_eq_getElem hi
    have h4 := ih (i + 1) m _ (by omega) (by omega) h3
    push_cast at h4
    rw [h2]
    generalize l[i + 1] = x at h3 h4 ⊢
    have h3' := fun (k : List AV → Out) (u : Tag k) => xi_at (e := fun w => [st w]) (k := k) (u := u) h3
    push_cast at h3'
    have h7 := wrap_succ (show i + 1 < 4611686018427387904 by omega)
    push_cast at h7
    cases h5 : Op.bytesLess p.toList x.toList
    · simp [X, Y, Z, h1, h0, h3', xi_at hp, h5, wrap_nat (show i < 4611686018427387904 by omega), riseP, lt2]
    · simp [X, Y, Z, h1, h0, h3', xi_at hp, h5, wrap_nat (show i < 4611686018427387904 by omega), h7, h4, riseP, lt2]
theorem d_rise (l : List ByteArray) (hw : l.length < 4611686018427387904) : dd i_ident_Rise [sl l] = some (bl (riseP none l)) := by
  refine D_runE (V := v_ident_Rise) (l.length + 2) rfl rfl rfl ?_
  rw [s_ident_Rise]
  cases l with
  | nil =>
    simp only [X, Y, Z]
    rw [R_ident_Rise_0_s]
    simp [X, Y, Z, riseP]
  | cons x l =>
    have h0 : (x :: l)[0]? = some x := rfl
    have h4 := R_rise (x :: l) hw (l.length + 2 + 1) l.length 0 (l.length + 2) x (by simp) (by omega) rfl
    have h1 : (0 : Int) < (((x :: l).length : Nat) : Int) := by simp only [List.length_cons]; omega
    have h3 := fun (k : List AV → Out) (u : Tag k) => xi_at (e := fun w => [st w]) (k := k) (u := u) h0
    have h8 : riseP none (x :: l) = riseP (some x) ((x :: l).drop (0 + 1)) := rfl
    rw [h8]
    have h9 : (x :: l).length = l.length + 1 := rfl
    generalize hL : x :: l = L at h0 h4 h1 h3 h9 ⊢
    simp only [X, Y, Z, List.length_map]
    rw [show L.length + 2 = (l.length + 2) + 1 by omega, R_ident_Rise_0_s]
    have h1n : 0 < L.length := by omega
    have h7 : IntKind.i64.wrap 1 = 1 := by decide
    simp at h3 h4
    simp [X, Y, Z, h1n, h3, h4, h7]
theorem R_refrise (l : List ByteArray) (hw : l.length < 4611686018427387904) (N : Nat) : ∀ (d i m : Nat) (p : ByteArray), l.length - (i + 1) = d → d < m → l[i]? = some p → R_ref09_Rise_0 dd (fun _ => .undef) N m [] (sl l) (i64 ((i : Int) + 1)) = some (bl (riseP (some p) (l.drop (i + 1)))) := by
  intro d
  induction d with
  | zero =>
    intro i m p hd hm hp
    obtain ⟨m, rfl⟩ : ∃ k, m = k + 1 := ⟨m - 1, by omega⟩
    rw [R_ref09_Rise_0_s]
    have h1 : ¬ ((i : Int) + 1 < (l.length : Int)) := by omega
    have h2 : l.drop (i + 1) = [] := List.drop_of_length_le (by omega)
    simp [X, Y, Z, h1, h2, riseP]
  | succ d ih =>
    intro i m p hd hm hp
    obtain ⟨m, rfl⟩ : ∃ k, m = k + 1 := ⟨m - 1, by omega⟩
    rw [R_ref09_Rise_0_s]
    have hi : i + 1 < l.length := by omega
    have h1 : (i : Int) + 1 < (l.length : Int) := by omega
    have h2 : l.drop (i + 1) = l[i + 1] :: l.drop (i + 1 + 1) := List.drop_eq_getElem_cons hi
    have h3 : l[i + 1]? = some l[i + 1] := List.getElem?_eq_getElem hi
    have h4 := ih (i + 1) m _ (by omega) (by omega) h3
    push_cast at h4
    rw [h2]
    generalize l[i + 1] = x at h3 h4 ⊢
    have h3' := fun (k : List AV → Out) (u : Tag k) => xi_at (e := fun w => [st w]) (k := k) (u := u) h3
    push_cast at h3'
    have h7 := wrap_succ (show i + 1 < 4611686018427387904 by omega)
    push_cast at h7
    cases h5 : Op.bytesLess p.toList x.toList
    · simp [X, Y, Z, h1, h3', xi_at hp, h5, wrap_nat (show i < 4611686018427387904 by omega), riseP, lt2]
    · simp [X, Y, Z, h1, h3', xi_at hp, h5, wrap_nat (show i < 4611686018427387904 by omega), h7, h4, riseP, lt2]
theorem d_refRise (l : List ByteArray) (hw : l.length < 4611686018427387904) : dd i_ref09_Rise [sl l] = some (bl (riseP none l)) := by
  refine D_runE (V := v_ref09_Rise) (l.length + 2) rfl rfl rfl ?_
  rw [s_ref09_Rise]
  cases l with
  | nil =>
    simp only [X, Y, Z]
    rw [R_ref09_Rise_0_s]
    simp [X, Y, Z, riseP]
  | cons x l =>
    have h4 := R_refrise (x :: l) hw (l.length + 1 + 2) l.length 0 (l.length + 1 + 2) x (by simp) (by omega) rfl
    have h8 : riseP none (x :: l) = riseP (some x) ((x :: l).drop (0 + 1)) := rfl
    rw [h8]
    have h9 : (x :: l).length + 2 = l.length + 1 + 2 := rfl
    rw [h9]
    generalize x :: l = L at h4 ⊢
    exact h4
/-- The rest of a list of texts. -/
def hasW (l : List ByteArray) (x : ByteArray) (i k : Nat) : Bool := ((l.take i).drop k).any fun w => decide (x = w)
theorem R_refonce0 (l : List ByteArray) (hw : l.length < 4611686018427387904) (N m1 i : Nat) (x : ByteArray) (hx : l[i]? = some x) : ∀ (d k m : Nat), i - k = d → k ≤ i → d < m → R_ref09_Once_0 dd (fun _ => .undef) N m m1 [] (sl l) (i64 i) (i64 k) =
    bif hasW l x i k then some (bl false) else R_ref09_Once_1 dd (fun _ => .undef) N m1 [] (sl l) (i64 ((i : Int) + 1)) := by
  intro d
  have hi := (List.getElem?_eq_some_iff.1 hx).1
  induction d with
  | zero =>
    intro k m hd hk hm
    obtain ⟨m, rfl⟩ : ∃ k, m = k + 1 := ⟨m - 1, by omega⟩
    rw [R_ref09_Once_0_s]
    obtain rfl : k = i := by omega
    have h1 : ¬ ((k : Int) < (k : Int)) := by omega
    have h2 : hasW l x k k = false := by unfold hasW; rw [List.drop_of_length_le (by rw [List.length_take]; omega)]; rfl
    simp [X, Y, Z, h1, h2, wrap_succ (show k < 4611686018427387904 by omega)]
  | succ d ih =>
    intro k m hd hk hm
    obtain ⟨m, rfl⟩ : ∃ k, m = k + 1 := ⟨m - 1, by omega⟩
    rw [R_ref09_Once_0_s]
    have h1 : (k : Int) < (i : Int) := by omega
    have hk3 : k < l.length := by omega
    have h3 : l[k]? = some l[k] := List.getElem?_eq_getElem hk3
    have h2 : hasW l x i k = (decide (x = l[k]) || hasW l x i (k + 1)) := by
      unfold hasW
      have : (l.take i)[k]? = some l[k] := by rw [List.getElem?_take_of_lt (by omega)]; exact h3
      obtain ⟨hlt, he⟩ := List.getElem?_eq_some_iff.1 this
      rw [List.drop_eq_getElem_cons hlt, he, List.any_cons]
    have h4 := ih (k + 1) m (by omega) (by omega) (by omega)
    push_cast at h4
    rw [h2]
    generalize l[k] = y at h3 ⊢
    cases h5 : decide (x = y)
    · simp [X, Y, Z, h1, xi_at h3, xi_at hx, h5, wrap_succ (show k < 4611686018427387904 by omega), h4]
    · simp [X, Y, Z, h1, xi_at h3, xi_at hx, h5]
theorem R_refonce1 (l : List ByteArray) (hw : l.length < 4611686018427387904) : ∀ (d i m : Nat), l.length - i = d → i ≤ l.length → d < m → (l.take i).Nodup → R_ref09_Once_1 dd (fun _ => .undef) (l.length + 2) m [] (sl l) (i64 i) = some (bl (decide l.Nodup)) := by
  intro d
  induction d with
  | zero =>
    intro i m hd hi hm hn
    obtain ⟨m, rfl⟩ : ∃ k, m = k + 1 := ⟨m - 1, by omega⟩
    rw [R_ref09_Once_1_s]
    have h1 : ¬ ((i : Int) < (l.length : Int)) := by omega
    rw [List.take_of_length_le (by omega)] at hn
    simp [X, Y, Z, h1, hn]
  | succ d ih =>
    intro i m hd hi hm hn
    obtain ⟨m, rfl⟩ : ∃ k, m = k + 1 := ⟨m - 1, by omega⟩
    rw [R_ref09_Once_1_s]
    have hlt : i < l.length := by omega
    have h1 : (i : Int) < (l.length : Int) := by omega
    have h3 : l[i]? = some l[i] := List.getElem?_eq_getElem hlt
    have h2 := R_refonce0 l hw (l.length + 2) m i _ h3 i 0 (l.length + 2) (by omega) (by omega) (by omega)
    have ht : l.take (i + 1) = l.take i ++ [l[i]] := List.take_succ_eq_append_getElem hlt
    have hh : hasW l l[i] i 0 = true ↔ l[i] ∈ l.take i := by
      unfold hasW
      rw [List.drop_zero, List.any_eq_true]
      constructor
      · rintro ⟨y, h, e⟩; rw [of_decide_eq_true e]; exact h
      · intro h; exact ⟨_, h, by simp⟩
    have h2 : R_ref09_Once_0 dd (fun _ => .undef) (l.length + 2) (l.length + 2) m [] (sl l) (i64 i) (i64 0) = bif hasW l l[i] i 0 then some (bl false) else R_ref09_Once_1 dd (fun _ => .undef) (l.length + 2) m [] (sl l) (i64 ((i : Int) + 1)) := h2
    simp [X, Y, Z, h1, h2]
    cases hc : hasW l l[i] i 0
    · have hm' : ¬ l[i] ∈ l.take i := fun h => by rw [hh.2 h] at hc; cases hc
      have h4 := ih (i + 1) m (by omega) (by omega) (by omega) (by
        rw [ht, List.nodup_append]
        refine ⟨hn, by simp, fun a ha b hb e => ?_⟩
        rw [List.mem_singleton] at hb
        subst hb e
        exact hm' ha)
      push_cast at h4
      simp [h4]
    · have : ¬ l.Nodup := by
        intro hl
        have := (List.take_sublist (i + 1) l).nodup hl
        rw [ht, List.nodup_append] at this
        exact this.2.2 _ (hh.1 hc) _ (List.mem_singleton.2 rfl) rfl
      simp [this]
theorem d_refOnce (l : List ByteArray) (hw : l.length < 4611686018427387904) : dd i_ref09_Once [sl l] = some (bl (decide l.Nodup)) := by
  refine D_runE (V := v_ref09_Once) (l.length + 2) rfl rfl rfl ?_
  rw [s_ref09_Once]
  have h := R_refonce1 l hw l.length 0 (l.length + 2) (by omega) (by omega) (by omega) (by simp)
  simp only [X, Y, Z]
  exact h
theorem d_Right (s : ByteArray) : dd i_ident_Right [st s] = some (bl (Prim.rightF s)) := D_prim rfl
theorem d_Once (l : List ByteArray) (h : l.length < 8796093022208) : dd i_ident_Once [sl l] = some (bl (decide l.Nodup)) := D_prim (by
  show (Prim.strsOf _).bind _ = _
  rw [Prim.strsOf_map, Option.bind_some, if_pos h])
theorem d_Once2 (a b : List ByteArray) (h : (a ++ b).length < 8796093022208) : dd i_ident_Once [.fsl ((a.map fun w => [st w]) ++ (b.map fun w => [st w]))] = some (bl (decide (a ++ b).Nodup)) := by
  rw [← List.map_append]
  exact d_Once _ h
theorem d_live : dd i_law09_live [] = some (bl true) := by
  refine D_runE (V := v_law09_live) 1 rfl rfl rfl ?_
  rw [s_law09_live]
  have e1 : Prim.rightF ⟨#[97, 95, 49]⟩ = true := by kernel_rfl
  have e2 : Prim.rightF ⟨#[49, 97]⟩ = false := by kernel_rfl
  have e3 : Prim.rightF ⟨#[116, 111]⟩ = false := by kernel_rfl
  have e4 : Prim.rightF ⟨#[97, 195, 169]⟩ = false := by kernel_rfl
  simp [X, Y, Z, d_Right, e1, e2, e3, e4]
theorem rise_of (l : List ByteArray) (h : riseP none l = true) : l.Nodup := by
  have := ((Prim.riseP_pair l none).1 h).2
  exact this.imp fun h e => by rw [e] at h; exact List.lt_irrefl _ h
theorem strs_inv : ∀ {es : List (List AV)}, (∀ c ∈ es, AvT Try.prog 9 c) → ∃ l : List ByteArray, es = l.map fun w => [st w]
  | [], _ => ⟨[], rfl⟩
  | e :: es, h => by
    obtain ⟨s, rfl, _⟩ := (h e List.mem_cons_self).str_inv Try.underlying9
    obtain ⟨l, rfl⟩ := strs_inv fun c hc => h c (List.mem_cons_of_mem _ hc)
    exact ⟨s :: l, rfl⟩
theorem law_IdentLists (l0 : List AV) (h0 : AvT Try.prog 22 l0) : dd i_law09_IdentLists [argA false l0] = some (.v (.bool true)) := by
  obtain ⟨es, rfl, _, he⟩ := h0.slice_inv Try.underlying22
  obtain ⟨l, rfl⟩ := strs_inv he
  refine D_runE (V := v_law09_IdentLists) 1 rfl rfl rfl ?_
  show denFE _ _ _ _ _ [sl l] = _
  rw [s_law09_IdentLists]
  cases hl : decide ((50 : Int) < (l.length : Int))
  · have h50 : ¬ (50 : Int) < (l.length : Int) := of_decide_eq_false hl
    have h1 : l.length < 4611686018427387904 := by omega
    have h2 : l.length < 8796093022208 := by omega
    have r := rise_of l
    have e1 := d_rise l h1
    have e2 := d_refRise l h1
    have e3 := d_Once l h2
    have e4 := d_refOnce l h1
    simp only [X, Y, Z, List.length_map, hl, e1, e2, e3, e4, d_live]
    cases hr : riseP none l
    · simp [X, Y, Z, d_live, e1, e2, e3, e4, hr]
    · simp [X, Y, Z, d_live, r hr, e1, e2, e3, e4, hr]
  · simp [X, Y, Z, List.length_map, hl, d_live]
theorem lenOk_st (l : List ByteArray) : lenOk 1 (l.map fun w => [st w]) = true := by
  unfold lenOk
  rw [List.all_map, List.all_eq_true]
  intro x _
  rfl
theorem law_IdentOrder (l0 l1 : List AV) (h0 : AvT Try.prog 22 l0) (h1 : AvT Try.prog 22 l1) : dd i_law09_IdentOrder [argA false l0, argA false l1] = some (.v (.bool true)) := by
  obtain ⟨es, rfl, _, he⟩ := h0.slice_inv Try.underlying22
  obtain ⟨a, rfl⟩ := strs_inv he
  obtain ⟨es', rfl, _, he'⟩ := h1.slice_inv Try.underlying22
  obtain ⟨b, rfl⟩ := strs_inv he'
  refine D_runE (V := v_law09_IdentOrder) 1 rfl rfl rfl ?_
  show denFE _ _ _ _ _ [sl a, sl b] = _
  rw [s_law09_IdentOrder]
  cases hl : decide ((30 : Int) < (a.length : Int))
  · cases hl' : decide ((30 : Int) < (b.length : Int))
    · have ha : ¬ (30 : Int) < (a.length : Int) := of_decide_eq_false hl
      have hb : ¬ (30 : Int) < (b.length : Int) := of_decide_eq_false hl'
      have e1 := d_Once2 a b (by rw [List.length_append]; omega)
      have e2 := d_Once2 b a (by rw [List.length_append]; omega)
      have e3 := d_Once a (by omega)
      have e4 := d_Once b (by omega)
      have hp : (b ++ a).Nodup ↔ (a ++ b).Nodup := List.perm_append_comm.nodup_iff
      have c1 : a.length * 16 ≤ 70368744177664 := by omega
      have c2 : b.length * 16 ≤ 70368744177664 := by omega
      have c3 : (a.length + b.length) * 16 ≤ 70368744177664 := by omega
      have c4 : (b.length + a.length) * 16 ≤ 70368744177664 := by omega
      have q1 : (a ++ b).Nodup → a.Nodup := fun h => (List.nodup_append.1 h).1
      have q2 : (a ++ b).Nodup → b.Nodup := fun h => (List.nodup_append.1 h).2.1
      have hd : decide (b ++ a).Nodup = decide (a ++ b).Nodup := decide_eq_decide.2 hp
      rw [hd] at e2
      cases hn : decide (a ++ b).Nodup
      rotate_left
      · simp [X, Y, Z, List.length_map, hl, hl', d_live, e1, e2, e3, e4, c1, c2, c3, c4, lenOk_st, hn, q1 (of_decide_eq_true hn), q2 (of_decide_eq_true hn)]
      · simp [X, Y, Z, List.length_map, hl, hl', d_live, e1, e2, e3, e4, c1, c2, c3, c4, lenOk_st, hn]
    · simp [X, Y, Z, List.length_map, hl, hl', d_live]
  · simp [X, Y, Z, List.length_map, hl, d_live]
end Go.Proofs.Yticmmpiffekbiaa.Il
