/- The reference: order. -/
import Derived.Test.YtmhdapjmndfkgaaGreatDoorSpC
namespace Go.Proofs.YtmhdapjmndfkgaaGreatDoor.Sp.B
open Go Go.Proofs.YtmhdapjmndfkgaaGreatDoor.Eng Go.Proofs.YtmhdapjmndfkgaaGreatDoor.Eng.V
set_option linter.unusedSimpArgs false
set_option linter.unusedVariables false
open Sp
open Sp.W (lt2 riseP sl xi_at wrap_succ wrap_nat wrap_pred)
theorem R_refrise (l : List ByteArray) (hw : l.length < 4611686018427387904) (N : Nat) : ∀ (d i m : Nat) (p : ByteArray), l.length - (i + 1) = d → d < m → l[i]? = some p → R_ref09_Rise_0 dd Prim.powG N m [] (sl l) (i64 ((i : Int) + 1)) = some (bl (riseP (some p) (l.drop (i + 1)))) := by
  intro d
  induction d with
  | zero =>
    intro i m p hd hm hp
    obtain ⟨m, rfl⟩ : ∃ k, m = k + 1 := ⟨m - 1, by omega⟩
    rw [R_ref09_Rise_0_s]
    have h1 : ¬ ((i : Int) + 1 < (l.length : Int)) := by omega
    have h2 : l.drop (i + 1) = [] := List.drop_of_length_le (by omega)
    simp [X, Y, Z, h1, h2, riseP]
  | succ d ih =>
    intro i m p hd hm hp
    obtain ⟨m, rfl⟩ : ∃ k, m = k + 1 := ⟨m - 1, by omega⟩
    rw [R_ref09_Rise_0_s]
    have hi : i + 1 < l.length := by omega
    have h1 : (i : Int) + 1 < (l.length : Int) := by omega
    have h2 : l.drop (i + 1) = l[i + 1] :: l.drop (i + 1 + 1) := List.drop_eq_getElem_cons hi
    have h3 : l[i + 1]? = some l[i + 1] := List.getElem?_eq_getElem hi
    have h4 := ih (i + 1) m _ (by omega) (by omega) h3
    push_cast at h4
    rw [h2]
    generalize l[i + 1] = x at h3 h4 ⊢
    have h3' := fun (k : List AV → Out) (u : Tag k) => xi_at (e := fun w => [st w]) (k := k) (u := u) h3
    push_cast at h3'
    have h7 := wrap_succ (show i + 1 < 4611686018427387904 by omega)
    push_cast at h7
    cases h5 : Op.bytesLess p.toList x.toList
    · simp [X, Y, Z, h1, h3', xi_at hp, h5, wrap_nat (show i < 4611686018427387904 by omega), riseP, lt2]
    · simp [X, Y, Z, h1, h3', xi_at hp, h5, wrap_nat (show i < 4611686018427387904 by omega), h7, h4, riseP, lt2]
theorem d_refRise (l : List ByteArray) (hw : l.length < 4611686018427387904) : dd i_ref09_Rise [sl l] = some (bl (riseP none l)) := by
  refine D_runE (V := v_ref09_Rise) (l.length + 2) rfl rfl rfl ?_
  rw [s_ref09_Rise]
  cases l with
  | nil =>
    simp only [X, Y, Z]
    rw [R_ref09_Rise_0_s]
    simp [X, Y, Z, riseP]
  | cons x l =>
    have h4 := R_refrise (x :: l) hw (l.length + 1 + 2) l.length 0 (l.length + 1 + 2) x (by simp) (by omega) rfl
    have h8 : riseP none (x :: l) = riseP (some x) ((x :: l).drop (0 + 1)) := rfl
    rw [h8]
    have h9 : (x :: l).length + 2 = l.length + 1 + 2 := rfl
    rw [h9]
    generalize x :: l = L at h4 ⊢
    simpa [X, Y, Z, k_ref09_Rise_0, inK] using h4
/-- The rest of a list of texts. -/
def hasW (l : List ByteArray) (x : ByteArray) (i k : Nat) : Bool := ((l.take i).drop k).any fun w => decide (x = w)
theorem R_refonce0 (l : List ByteArray) (hw : l.length < 4611686018427387904) (N m1 i : Nat) (x : ByteArray) (hx : l[i]? = some x) : ∀ (d k m : Nat), i - k = d → k ≤ i → d < m → R_ref09_Once_0 dd Prim.powG N m m1 [] (sl l) (i64 i) (i64 k) =
    bif hasW l x i k then some (bl false) else R_ref09_Once_1 dd Prim.powG N m1 [] (sl l) (i64 ((i : Int) + 1)) := by
  intro d
  have hi := (List.getElem?_eq_some_iff.1 hx).1
  induction d with
  | zero =>
    intro k m hd hk hm
    obtain ⟨m, rfl⟩ : ∃ k, m = k + 1 := ⟨m - 1, by omega⟩
    rw [R_ref09_Once_0_s]
    obtain rfl : k = i := by omega
    have h1 : ¬ ((k : Int) < (k : Int)) := by omega
    have h2 : hasW l x k k = false := by unfold hasW; rw [List.drop_of_length_le (by rw [List.length_take]; omega)]; rfl
    simp [X, Y, Z, h1, h2, wrap_succ (show k < 4611686018427387904 by omega)]
  | succ d ih =>
    intro k m hd hk hm
    obtain ⟨m, rfl⟩ : ∃ k, m = k + 1 := ⟨m - 1, by omega⟩
    rw [R_ref09_Once_0_s]
    have h1 : (k : Int) < (i : Int) := by omega
    have hk3 : k < l.length := by omega
    have h3 : l[k]? = some l[k] := List.getElem?_eq_getElem hk3
    have h2 : hasW l x i k = (decide (x = l[k]) || hasW l x i (k + 1)) := by
      unfold hasW
      have : (l.take i)[k]? = some l[k] := by rw [List.getElem?_take_of_lt (by omega)]; exact h3
      obtain ⟨hlt, he⟩ := List.getElem?_eq_some_iff.1 this
      rw [List.drop_eq_getElem_cons hlt, he, List.any_cons]
    have h4 := ih (k + 1) m (by omega) (by omega) (by omega)
    push_cast at h4
    rw [h2]
    generalize l[k] = y at h3 ⊢
    cases h5 : decide (x = y)
    · simp [X, Y, Z, h1, xi_at h3, xi_at hx, h5, wrap_succ (show k < 4611686018427387904 by omega), h4]
    · simp [X, Y, Z, h1, xi_at h3, xi_at hx, h5]
theorem R_refonce1 (l : List ByteArray) (hw : l.length < 4611686018427387904) : ∀ (d i m : Nat), l.length - i = d → i ≤ l.length → d < m → (l.take i).Nodup → R_ref09_Once_1 dd Prim.powG (l.length + 2) m [] (sl l) (i64 i) = some (bl (decide l.Nodup)) := by
  intro d
  induction d with
  | zero =>
    intro i m hd hi hm hn
    obtain ⟨m, rfl⟩ : ∃ k, m = k + 1 := ⟨m - 1, by omega⟩
    rw [R_ref09_Once_1_s]
    have h1 : ¬ ((i : Int) < (l.length : Int)) := by omega
    rw [List.take_of_length_le (by omega)] at hn
    simp [X, Y, Z, h1, hn]
  | succ d ih =>
    intro i m hd hi hm hn
    obtain ⟨m, rfl⟩ : ∃ k, m = k + 1 := ⟨m - 1, by omega⟩
    rw [R_ref09_Once_1_s]
    have hlt : i < l.length := by omega
    have h1 : (i : Int) < (l.length : Int) := by omega
    have h3 : l[i]? = some l[i] := List.getElem?_eq_getElem hlt
    have h2 := R_refonce0 l hw (l.length + 2) m i _ h3 i 0 (l.length + 2) (by omega) (by omega) (by omega)
    have ht : l.take (i + 1) = l.take i ++ [l[i]] := List.take_succ_eq_append_getElem hlt
    have hh : hasW l l[i] i 0 = true ↔ l[i] ∈ l.take i := by
      unfold hasW
      rw [List.drop_zero, List.any_eq_true]
      constructor
      · rintro ⟨y, h, e⟩; rw [of_decide_eq_true e]; exact h
      · intro h; exact ⟨_, h, by simp⟩
    have h2 : R_ref09_Once_0 dd Prim.powG (l.length + 2) (l.length + 2) m [] (sl l) (i64 i) (i64 0) = bif hasW l l[i] i 0 then some (bl false) else R_ref09_Once_1 dd Prim.powG (l.length + 2) m [] (sl l) (i64 ((i : Int) + 1)) := h2
    simp [X, Y, Z, h1, h2]
    cases hc : hasW l l[i] i 0
    · have hm' : ¬ l[i] ∈ l.take i := fun h => by rw [hh.2 h] at hc; cases hc
      have h4 := ih (i + 1) m (by omega) (by omega) (by omega) (by
        rw [ht, List.nodup_append]
        refine ⟨hn, by simp, fun a ha b hb e => ?_⟩
        rw [List.mem_singleton] at hb
        subst hb e
        exact hm' ha)
      push_cast at h4
      simp [h4]
    · have : ¬ l.Nodup := by
        intro hl
        have := (List.take_sublist (i + 1) l).nodup hl
        rw [ht, List.nodup_append] at this
        exact this.2.2 _ (hh.1 hc) _ (List.mem_singleton.2 rfl) rfl
      simp [this]
theorem d_refOnce (l : List ByteArray) (hw : l.length < 4611686018427387904) : dd i_ref09_Once [sl l] = some (bl (decide l.Nodup)) := by
  refine D_runE (V := v_ref09_Once) (l.length + 2) rfl rfl rfl ?_
  rw [s_ref09_Once]
  have h := R_refonce1 l hw l.length 0 (l.length + 2) (by omega) (by omega) (by omega) (by simp)
  simp only [X, Y, Z]
  exact h
abbrev ss (l : List ByteArray) : List (List AV) := l.map fun w => [st w]
theorem R_rtwice0 (s : Sch) (N m1 i : Nat) (e : En) (hx : s.Enums[i]? = some e) (h1 : s.Enums.length < 1000) (hv : e.Values.length < 1000) (hN : e.Values.length < N) (all : List ByteArray) (b : Bool) : R_ref15_twice_0 dd Prim.powG N N m1 [so s, ((13, 0), .tail all.length 1 false false), ((28, 0), .tail 1 1 true false), ((30, 0), .tail 0 1 true false)] (i64 i) (.ptr (1, 0) 0) (.asl (13, 0) (ss all)) (bl b) (i64 0) (.asl (30, 0) []) (.asl (13, 0) []) (.asl (28, 0) [[st e.Name]]) (.asl (13, 0) (ss all)) (.asl (30, 0) []) .undef .undef .undef .undef .undef .undef .undef .undef .undef = R_ref15_twice_1 dd Prim.powG N m1 [so s, ((13, 0), .tail all.length 1 false false)] (i64 ((i : Int) + 1)) (.ptr (1, 0) 0) (bl (b || twice1 e)) (.asl (13, 0) (ss all)) (.asl (13, 0) []) .undef .undef .undef .undef .undef .undef .undef .undef .undef := by
  have hi' : i < 1000 := by have := (List.getElem?_eq_some_iff.1 hx).1; omega
  have hs' := wrap_succ (show i < 4611686018427387904 by omega)
  have h := loop_acc e.Values (P := fun dn r m => ∀ mu, R_ref15_twice_0 dd Prim.powG N m m1 [so s, ((13, 0), .tail all.length 1 false false), ((28, 0), .tail 1 1 true false), ((30, 0), .tail dn.length 1 mu false)] (i64 i) (.ptr (1, 0) 0) (.asl (13, 0) (ss all)) (bl b) (i64 dn.length) (.asl (30, 0) (dn.map fun v => [st v.Name])) (.asl (13, 0) []) (.asl (28, 0) [[st e.Name]]) (.asl (13, 0) (ss all)) (.asl (30, 0) []) .undef .undef .undef .undef .undef .undef .undef .undef .undef = R_ref15_twice_1 dd Prim.powG N m1 [so s, ((13, 0), .tail all.length 1 false false)] (i64 ((i : Int) + 1)) (.ptr (1, 0) 0) (bl (b || twice1 e)) (.asl (13, 0) (ss all)) (.asl (13, 0) []) .undef .undef .undef .undef .undef .undef .undef .undef .undef) (by
    intro m mu
    rw [R_ref15_twice_0_s]
    have e2 := d_refOnce (e.Values.map Vl.Name) (by rw [List.length_map]; omega)
    unfold sl at e2
    rw [List.map_map] at e2
    have e3 : ((fun w => [st w]) ∘ Vl.Name) = fun v : Vl => [st v.Name] := rfl
    rw [e3] at e2
    cases b <;> simp [X, Y, Z, xi_at hx, eE, k_ref15_twice_1, hs', e2, twice1]) (by
    intro dn x r m he hi hy ih mu
    rw [R_ref15_twice_0_s]
    rw [List.length_append, List.map_append] at ih
    push_cast at ih
    have hs := wrap_succ (show dn.length < 4611686018427387904 by omega)
    have := ih false
    simp [X, Y, Z, hi, xi_at hx, xi_at hy, eE, eV, k_ref15_twice_0, hs, show (dn.length + 1) * 16 ≤ 70368744177664 by omega]
    simpa using this) N hN
  exact h true
def rtw (l : List ByteArray) (f : Fld) : Bool := !decide (f.One = noS) && !decide (l ++ [f.One]).Nodup
def rtw2 (m : Ms) : Bool := !decide (m.Fields.map Fld.Name).Nodup || m.Fields.any (rtw (m.Fields.map Fld.Name))
theorem R_rtwice3 (s : Sch) (N m4 i : Nat) (e : Ms) (hi' : i < 1000) (hv : e.Fields.length < 1000) (hN : e.Fields.length < N) (all : List ByteArray) (b mu shr : Bool) (l : List ByteArray) (hl : l.length < 1000) (q75 q76 : AV) (h75 : q75 = .asl (75, 0) [[st e.Name]]) : R_ref15_twice_3 dd Prim.powG N N m4 [so s, ((13, 0), .tail all.length 1 false false), ((75, 0), .tail 1 1 true false), ((83, 0), .tail l.length 1 mu shr)] (.fsl (e.Fields.map Fld.cells)) (.asl (83, 0) (ss l)) (.ptr (1, 0) 0) (.asl (13, 0) (ss all)) (i64 i) (i64 0) (bl b) (.asl (13, 0) []) .undef .undef .undef .undef .undef (.asl (75, 0) [[st e.Name]]) (.asl (13, 0) (ss all)) (.asl (83, 0) []) .undef .undef = R_ref15_twice_4 dd Prim.powG N m4 [so s, ((13, 0), .tail all.length 1 false false)] (.ptr (1, 0) 0) (i64 ((i : Int) + 1)) (bl (b || e.Fields.any (rtw l))) (.asl (13, 0) (ss all)) (.asl (13, 0) []) .undef .undef .undef .undef .undef := by
  have hs' := wrap_succ (show i < 4611686018427387904 by omega)
  have h := loop_acc e.Fields (P := fun dn r m => ∀ b, R_ref15_twice_3 dd Prim.powG N m m4 [so s, ((13, 0), .tail all.length 1 false false), ((75, 0), .tail 1 1 true false), ((83, 0), .tail l.length 1 mu shr)] (.fsl (e.Fields.map Fld.cells)) (.asl (83, 0) (ss l)) (.ptr (1, 0) 0) (.asl (13, 0) (ss all)) (i64 i) (i64 dn.length) (bl b) (.asl (13, 0) []) .undef .undef .undef .undef .undef (.asl (75, 0) [[st e.Name]]) (.asl (13, 0) (ss all)) (.asl (83, 0) []) .undef .undef = R_ref15_twice_4 dd Prim.powG N m4 [so s, ((13, 0), .tail all.length 1 false false)] (.ptr (1, 0) 0) (i64 ((i : Int) + 1)) (bl (b || r.any (rtw l))) (.asl (13, 0) (ss all)) (.asl (13, 0) []) .undef .undef .undef .undef .undef) (by
    intro m b
    rw [R_ref15_twice_3_s]
    simp [X, Y, Z, k_ref15_twice_4, hs']) (by
    intro dn x r m he hi hy ih b
    rw [R_ref15_twice_3_s]
    rw [List.length_append] at ih
    push_cast at ih
    have hs := wrap_succ (show dn.length < 4611686018427387904 by omega)
    have e2 := d_refOnce (l ++ [x.One]) (by rw [List.length_append]; simp; omega)
    unfold sl at e2
    rw [List.map_append] at e2
    rw [List.any_cons]
    cases b
    · cases q1 : decide (x.One = noS)
      · have := ih (!decide (l ++ [x.One]).Nodup)
        simp only [List.map_cons, List.map_nil] at e2
        simp [X, Y, Z, hi, xi_at hy, Fld.cells, k_ref15_twice_3, hs, q1, e2, lenOk_st, show l.length * 16 ≤ 70368744177664 by omega, show (l.length + 1) * 16 ≤ 70368744177664 by omega]
        simpa [rtw, q1] using this
      · have := ih false
        simp [X, Y, Z, hi, xi_at hy, Fld.cells, k_ref15_twice_3, hs, q1]
        simpa [rtw, q1] using this
    · have := ih true
      simp [X, Y, Z, hi, k_ref15_twice_3, hs]
      simpa using this) N hN
  exact h b
theorem R_rtwice2 (s : Sch) (N m4 i : Nat) (e : Ms) (hi' : i < 1000) (hv : e.Fields.length < 1000) (hN : e.Fields.length < N) (all : List ByteArray) (b : Bool) : R_ref15_twice_2 dd Prim.powG N N m4 [so s, ((13, 0), .tail all.length 1 false false), ((75, 0), .tail 1 1 true false), ((83, 0), .tail 0 1 true false)] (.fsl (e.Fields.map Fld.cells)) (.ptr (1, 0) 0) (.asl (13, 0) (ss all)) (i64 i) (bl b) (i64 0) (.asl (83, 0) []) (.asl (13, 0) []) .undef .undef .undef .undef .undef (.asl (75, 0) [[st e.Name]]) (.asl (13, 0) (ss all)) (.asl (83, 0) []) .undef .undef .undef .undef = R_ref15_twice_4 dd Prim.powG N m4 [so s, ((13, 0), .tail all.length 1 false false)] (.ptr (1, 0) 0) (i64 ((i : Int) + 1)) (bl (b || rtw2 e)) (.asl (13, 0) (ss all)) (.asl (13, 0) []) .undef .undef .undef .undef .undef := by
  have hs' := wrap_succ (show i < 4611686018427387904 by omega)
  have h := loop_acc e.Fields (P := fun dn r m => ∀ mu, R_ref15_twice_2 dd Prim.powG N m m4 [so s, ((13, 0), .tail all.length 1 false false), ((75, 0), .tail 1 1 true false), ((83, 0), .tail dn.length 1 mu false)] (.fsl (e.Fields.map Fld.cells)) (.ptr (1, 0) 0) (.asl (13, 0) (ss all)) (i64 i) (bl b) (i64 dn.length) (.asl (83, 0) (dn.map fun v => [st v.Name])) (.asl (13, 0) []) .undef .undef .undef .undef .undef (.asl (75, 0) [[st e.Name]]) (.asl (13, 0) (ss all)) (.asl (83, 0) []) .undef .undef .undef .undef = R_ref15_twice_4 dd Prim.powG N m4 [so s, ((13, 0), .tail all.length 1 false false)] (.ptr (1, 0) 0) (i64 ((i : Int) + 1)) (bl (b || rtw2 e)) (.asl (13, 0) (ss all)) (.asl (13, 0) []) .undef .undef .undef .undef .undef) (by
    intro m mu
    rw [R_ref15_twice_2_s]
    have e2 := d_refOnce (e.Fields.map Fld.Name) (by rw [List.length_map]; omega)
    have h3 := fun b mu shr => R_rtwice3 s N m4 i e hi' hv hN all b mu shr (e.Fields.map Fld.Name) (by rw [List.length_map]; omega) _ .undef rfl
    have e3 : ss (e.Fields.map Fld.Name) = e.Fields.map fun v : Fld => [st v.Name] := by unfold ss; rw [List.map_map]; rfl
    unfold sl at e2
    rw [show ((e.Fields.map Fld.Name).map fun w => [st w]) = e.Fields.map fun v : Fld => [st v.Name] from e3] at e2
    rw [e3, List.length_map] at h3
    cases b
    · have := h3 (!decide (e.Fields.map Fld.Name).Nodup) false true
      simp [X, Y, Z, k_ref15_twice_3, e2]
      simpa [rtw2] using this
    · have := h3 true mu false
      simp [X, Y, Z, k_ref15_twice_3, e2]
      simpa [rtw2] using this) (by
    intro dn x r m he hi hy ih mu
    rw [R_ref15_twice_2_s]
    rw [List.length_append, List.map_append] at ih
    push_cast at ih
    have hs := wrap_succ (show dn.length < 4611686018427387904 by omega)
    have := ih false
    simp [X, Y, Z, hi, xi_at hy, Fld.cells, k_ref15_twice_2, hs, show (dn.length + 1) * 16 ≤ 70368744177664 by omega]
    simpa using this) N hN
  exact h true
theorem ss_add (l : List ByteArray) (x : ByteArray) : ss (l ++ [x]) = ss l ++ [[st x]] := List.map_append
theorem R_rtwice4 (s : Sch) (ok : SchOk s) (all0 : List ByteArray) (ha : all0.length < 1000) (b0 mu0 : Bool) : R_ref15_twice_4 dd Prim.powG 1001 1001 [so s, ((13, 0), .tail all0.length 1 mu0 false)] (.ptr (1, 0) 0) (i64 0) (bl b0) (.asl (13, 0) (ss all0)) (.asl (13, 0) []) .undef .undef .undef .undef .undef = some (bl (b0 || s.Messages.any rtw2 || !decide (all0 ++ mNames s).Nodup)) := by
  have o2 := ok.messages
  have h := loop_acc s.Messages (P := fun dn r m => ∀ b mu all, all.length = all0.length + dn.length → all ++ r.map Ms.Name = all0 ++ mNames s → R_ref15_twice_4 dd Prim.powG 1001 m [so s, ((13, 0), .tail all.length 1 mu false)] (.ptr (1, 0) 0) (i64 dn.length) (bl b) (.asl (13, 0) (ss all)) (.asl (13, 0) []) .undef .undef .undef .undef .undef = some (bl (b || r.any rtw2 || !decide (all0 ++ mNames s).Nodup))) (by
    intro m b mu all hl hall
    rw [R_ref15_twice_4_s]
    have e2 := d_refOnce all (by rw [hl]; omega)
    rw [List.map_nil, List.append_nil] at hall
    rw [← hall]
    cases b <;> simp [X, Y, Z, e2]) (by
    intro dn x r m he hi hx ih b mu all hl hall
    rw [R_ref15_twice_4_s]
    have h0 := fun b => R_rtwice2 s 1001 m dn.length x (by omega) (ok.mf x (mem_at hx)) (by have := ok.mf x (mem_at hx); omega) (all ++ [x.Name]) b
    have := ih (b || rtw2 x) false (all ++ [x.Name]) (by rw [List.length_append, List.length_append, hl]; simp [Nat.add_assoc]) (by rw [List.append_assoc]; exact hall)
    rw [ss_add, List.length_append] at h0 this
    rw [List.length_append] at this
    rw [List.any_cons]
    simp only [List.length_cons, List.length_nil] at h0 this
    push_cast at this
    simp [X, Y, Z, hi, xi_at hx, eM, k_ref15_twice_2, show (all.length + 1) * 16 ≤ 70368744177664 by omega]
    have h1 := h0 b
    simp at h1
    rw [h1]
    simpa [Bool.or_assoc] using this) 1001 (by omega)
  exact h b0 mu0 all0 (by simp) rfl
def rtwiceF (s : Sch) : Bool := s.Enums.any twice1 || s.Messages.any rtw2 || !decide (eNames s ++ mNames s).Nodup
theorem d_rtwice (s : Sch) (ok : SchOk s) : dd i_ref15_twice [sch s] = some (bl (rtwiceF s)) := by
  refine D_runE (V := v_ref15_twice) 1001 rfl rfl rfl ?_
  rw [s_ref15_twice]
  have o1 := ok.enums
  have h := loop_acc s.Enums (P := fun dn r m => ∀ b mu all, all.length = dn.length → all ++ r.map En.Name = eNames s → R_ref15_twice_1 dd Prim.powG 1001 m [so s, ((13, 0), .tail all.length 1 mu false)] (i64 dn.length) (.ptr (1, 0) 0) (bl b) (.asl (13, 0) (ss all)) (.asl (13, 0) []) .undef .undef .undef .undef .undef .undef .undef .undef .undef = some (bl (b || r.any twice1 || s.Messages.any rtw2 || !decide (eNames s ++ mNames s).Nodup))) (by
    intro m b mu all hl hall
    rw [R_ref15_twice_1_s]
    rw [List.map_nil, List.append_nil] at hall
    have h0 := R_rtwice4 s ok all (by omega) b mu
    rw [← hall]
    simp [X, Y, Z, k_ref15_twice_4]
    simpa using h0) (by
    intro dn x r m he hi hx ih b mu all hl hall
    rw [R_ref15_twice_1_s]
    have h0 := fun b => R_rtwice0 s 1001 m dn.length x hx o1 (ok.en x (mem_at hx)) (by have := ok.en x (mem_at hx); omega) (all ++ [x.Name]) b
    have := ih (b || twice1 x) false (all ++ [x.Name]) (by rw [List.length_append, List.length_append, hl]; simp) (by rw [List.append_assoc]; exact hall)
    rw [ss_add, List.length_append] at h0 this
    rw [List.length_append] at this
    rw [List.any_cons]
    simp only [List.length_cons, List.length_nil] at h0 this
    push_cast at this
    simp [X, Y, Z, hi, xi_at hx, eE, k_ref15_twice_0, show (all.length + 1) * 16 ≤ 70368744177664 by omega]
    have h1 := h0 b
    simp at h1
    rw [h1]
    simpa [Bool.or_assoc] using this) 1001 (by omega)
  have h0 := h false true [] rfl rfl
  unfold rtwiceF
  rw [Bool.false_or] at h0
  simp [X, Y, Z, k_ref15_twice_1]
  simpa using h0
end Go.Proofs.YtmhdapjmndfkgaaGreatDoor.Sp.B
