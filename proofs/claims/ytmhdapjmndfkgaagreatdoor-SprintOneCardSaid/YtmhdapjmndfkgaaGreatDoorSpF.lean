/- The reference: order. -/
import Derived.Test.YtmhdapjmndfkgaaGreatDoorSpD
import Derived.Test.YtmhdapjmndfkgaaGreatDoorSpE
namespace Go.Proofs.YtmhdapjmndfkgaaGreatDoor.Sp.B
open Go Go.Proofs.YtmhdapjmndfkgaaGreatDoor.Eng Go.Proofs.YtmhdapjmndfkgaaGreatDoor.Eng.V
set_option linter.unusedSimpArgs false
set_option linter.unusedVariables false
open Sp
open Sp.W (lt2 riseP sl xi_at wrap_succ wrap_nat wrap_pred)
theorem d_rRises (l : List Int) (hw : l.length < 1000) : dd i_ref15_Rises [.fsl (l.map eI)] = some (bl (riseI none l)) := by
  refine D_runE (V := v_ref15_Rises) 1001 rfl rfl rfl ?_
  rw [s_ref15_Rises]
  have h := loop_ind l (P := fun i r m => ∀ j, i = j + 1 → R_ref15_Rises_0 dd Prim.powG 1001 m [] (.fsl (l.map eI)) (i64 i) = some (bl (riseI l[j]? r))) (by
    intro m j hj
    rw [R_ref15_Rises_0_s]
    cases l[j]? <;> simp [X, Y, Z, riseI]) (by
    intro i x r m hi hx hr ih j hj
    rw [R_ref15_Rises_0_s]
    subst hj
    have hy : l[j]? = some l[j] := List.getElem?_eq_getElem (by omega)
    have h2 := ih (j + 1) rfl
    rw [hx] at h2
    rw [hy]
    generalize l[j] = y at hy ⊢
    have hx2 := fun (k : List AV → Out) (u : Tag k) => xi_at (e := eI) (k := k) (u := u) hx
    have h1 : ((j : Int) + 1 < l.length) := by omega
    have h7 := wrap_succ (show j + 1 < 4611686018427387904 by omega)
    push_cast at h7 hx2 h2
    by_cases h5 : x ≤ y
    · simp [X, Y, Z, h1, hx2, eI, xi_at hy, wrap_nat (show j < 4611686018427387904 by omega), riseI, h5]
    · simp [X, Y, Z, h1, hx2, eI, xi_at hy, wrap_nat (show j < 4611686018427387904 by omega), riseI, h5, h7]
      simpa using h2)
  cases l with
  | nil =>
    have e0 : R_ref15_Rises_0 dd Prim.powG 1001 (1000 + 1) [] (.fsl (([] : List Int).map eI)) (i64 1) = some (bl true) := by
      rw [R_ref15_Rises_0_s]
      simp [X, Y, Z]
    simpa [X, Y, Z, k_ref15_Rises_0, riseI] using e0
  | cons x l =>
    have h0 := h 1 1001 (by simp) (by simp only [List.length_cons] at hw ⊢; omega) 0 rfl
    have e : riseI none (x :: l) = riseI (x :: l)[0]? ((x :: l).drop 1) := rfl
    rw [e]
    generalize x :: l = L at h0 ⊢
    simp [X, Y, Z, k_ref15_Rises_0]
    simpa using h0
theorem d_rNums (e : Ms) (hw : e.Fields.length < 1000) : dd i_ref15_Nums [aM e] = some (.own 1 true ((e.Fields.map Fld.Num).map eI)) := by
  refine D_runE (V := v_ref15_Nums) 1001 rfl rfl rfl ?_
  rw [s_ref15_Nums]
  have h := loop_acc e.Fields (P := fun dn r m => ∀ mu, R_ref15_Nums_0 dd Prim.powG 1001 m [((1, 0), .var (eM e) false), ((2, 0), .tail 0 1 false false), ((5, 0), .tail dn.length 1 mu false)] (.ptr (1, 0) 0) (i64 dn.length) (.asl (5, 0) (dn.map fun v => [i64 v.Num])) (.asl (2, 0) []) (.asl (5, 0) []) = some (.own 1 true ((e.Fields.map Fld.Num).map eI))) (by
    intro m mu
    rw [R_ref15_Nums_0_s]
    rw [List.map_map]
    simp [X, Y, Z]) (by
    intro dn x r m he hi hx ih mu
    rw [R_ref15_Nums_0_s]
    rw [List.length_append, List.map_append] at ih
    push_cast at ih
    have := ih false
    simp [X, Y, Z, hi, xi_at hx, Fld.cells, k_ref15_Nums_0, show (dn.length + 1) * 8 ≤ 70368744177664 by omega, wrap_succ (show dn.length < 4611686018427387904 by omega)]
    simpa using this) 1001 (by omega)
  have := h true
  simp [X, Y, Z, k_ref15_Nums_0]
  simpa using this
theorem R_rorder0 (s : Sch) (N m1 i : Nat) (e : En) (hx : s.Enums[i]? = some e) (h1 : s.Enums.length < 1000) (hv : e.Values.length < 1000) (hn : e.Values ≠ []) (hN : e.Values.length < N) (all : List ByteArray) (b : Bool) : R_ref15_order_0 dd Prim.powG N N m1 [so s, ((10, 0), .tail all.length 1 false false), ((25, 0), .tail 1 1 true false), ((27, 0), .tail 0 1 true false)] (i64 i) (.ptr (1, 0) 0) (.asl (10, 0) (ss all)) (bl b) (i64 0) (.asl (27, 0) []) (.asl (10, 0) []) (.asl (25, 0) [[st e.Name]]) (.asl (10, 0) (ss all)) (.asl (27, 0) []) .undef .undef .undef = R_ref15_order_1 dd Prim.powG N m1 [so s, ((10, 0), .tail all.length 1 false false)] (i64 ((i : Int) + 1)) (.ptr (1, 0) 0) (bl (b || !valL (e.Values.map Vl.Num))) (.asl (10, 0) (ss all)) (.asl (10, 0) []) .undef .undef .undef := by
  have hi' : i < 1000 := by have := (List.getElem?_eq_some_iff.1 hx).1; omega
  have hs' := wrap_succ (show i < 4611686018427387904 by omega)
  have hl : e.Values.map Vl.Num ≠ [] := by simpa using hn
  have ev : (e.Values.map fun v => [i64 v.Num]) = (e.Values.map Vl.Num).map eI := by rw [List.map_map]; rfl
  have h := loop_acc e.Values (P := fun dn r m => ∀ mu, R_ref15_order_0 dd Prim.powG N m m1 [so s, ((10, 0), .tail all.length 1 false false), ((25, 0), .tail 1 1 true false), ((27, 0), .tail dn.length 1 mu false)] (i64 i) (.ptr (1, 0) 0) (.asl (10, 0) (ss all)) (bl b) (i64 dn.length) (.asl (27, 0) (dn.map fun v => [i64 v.Num])) (.asl (10, 0) []) (.asl (25, 0) [[st e.Name]]) (.asl (10, 0) (ss all)) (.asl (27, 0) []) .undef .undef .undef = R_ref15_order_1 dd Prim.powG N m1 [so s, ((10, 0), .tail all.length 1 false false)] (i64 ((i : Int) + 1)) (.ptr (1, 0) 0) (bl (b || !valL (e.Values.map Vl.Num))) (.asl (10, 0) (ss all)) (.asl (10, 0) []) .undef .undef .undef) (by
    intro m mu
    rw [R_ref15_order_0_s]
    have e1 := d_rRises (e.Values.map Vl.Num) (by rw [List.length_map]; omega)
    have h0 := head_at hl
    have h9 := last_at hl
    rw [List.length_map] at h9
    have hx0 := fun (k : List AV → Out) (u : Tag k) => xi_head (e := eI) (k := k) (u := u) h0
    have hx9 := fun (k : List AV → Out) (u : Tag k) => xi_at (e := eI) (k := k) (u := u) h9
    have hp : 0 < e.Values.length := List.length_pos_iff.2 hn
    have hc : ((e.Values.length - 1 : Nat) : Int) = (e.Values.length : Int) - 1 := by omega
    rw [hc] at hx9
    have hw9 := wrap_nat (show e.Values.length - 1 < 4611686018427387904 by omega)
    rw [hc] at hw9
    unfold valL
    rw [ev]
    have hlen : (e.Values.map Vl.Num).length = e.Values.length := List.length_map _
    generalize e.Values.map Vl.Num = l at *
    cases b
    · cases q1 : riseI none l <;> by_cases q2 : hdI l = 0 <;> by_cases q3 : lsI l ≤ 1048576
      all_goals (
        have q3' : decide (1048576 < lsI l) = !decide (lsI l ≤ 1048576) := by rw [← decide_not, decide_eq_decide]; omega
        simp [X, Y, Z, xi_at hx, eE, k_ref15_order_1, hs', e1, q1, q2, q3, q3', hx0, hx9, eI, hlen, hw9])
    · simp [X, Y, Z, xi_at hx, eE, k_ref15_order_1, hs']) (by
    intro dn x r m he hi hy ih mu
    rw [R_ref15_order_0_s]
    rw [List.length_append, List.map_append] at ih
    push_cast at ih
    have hs := wrap_succ (show dn.length < 4611686018427387904 by omega)
    have := ih false
    simp [X, Y, Z, hi, xi_at hx, xi_at hy, eE, eV, k_ref15_order_0, hs, show (dn.length + 1) * 8 ≤ 70368744177664 by omega]
    simpa using this) N hN
  exact h true
/-- A message's numbers, as the document tells them. -/
def rnumM (m : Ms) : Bool := !riseI none (m.Fields.map Fld.Num) || (!riseI none m.Barred || (decide ((0 : Int) < m.Barred.length) && (decide (hdI m.Barred < 1) || decide (536870911 < lsI m.Barred))))
theorem J_rorder (s : Sch) (N m2 i : Nat) (e : Ms) (hx : s.Messages[i]? = some e) (h2 : s.Messages.length < 1000) (hf : e.Fields.length < 1000) (hb : e.Barred.length < 1000) (l1 : Nat) (g0 g1 g2 : Bool) (x4 x104 : AV) (all : List ByteArray) (b : Bool) (oo : Objs) (ho : oo = [so s, ((10, 0), .tail l1 1 g0 g1), ((79, 0), .tail all.length 1 g2 false)] ∨ ∃ a, oo = [so s, ((10, 0), .tail l1 1 g0 g1), ((79, 0), .tail all.length 1 g2 false), ((96, 0), a)]) : J_ref15_order_0 dd Prim.powG N m2 oo (.ptr (1, 0) 0) (bl b) (.asl (79, 0) (ss all)) (i64 i) (.asl (10, 0) []) .undef .undef .undef .undef .undef (.asl (79, 0) []) = R_ref15_order_2 dd Prim.powG N m2 [so s, ((10, 0), .tail l1 1 g0 g1), ((79, 0), .tail all.length 1 g2 false)] (.ptr (1, 0) 0) (i64 ((i : Int) + 1)) (bl (b || rnumM e)) (.asl (79, 0) (ss all)) (.asl (10, 0) []) .undef .undef .undef .undef .undef (.asl (79, 0) []) := by
  have hi' : i < 1000 := by have := (List.getElem?_eq_some_iff.1 hx).1; omega
  have hs' := wrap_succ (show i < 4611686018427387904 by omega)
  have e0 := d_rNums e hf
  have e1 := d_rRises (e.Fields.map Fld.Num) (by rw [List.length_map]; omega)
  have e2 := d_rRises e.Barred hb
  unfold J_ref15_order_0
  by_cases hne : e.Barred = []
  · have hz : ¬ (0 : Int) < e.Barred.length := by rw [hne]; simp
    have hz' : ¬ 0 < e.Barred.length := by rw [hne]; simp
    unfold rnumM
    generalize e.Fields.map Fld.Num = nums at e0 e1 ⊢
    cases b
    · cases q1 : riseI none nums <;> cases q2 : riseI none e.Barred <;> rw [q1] at e1 <;> rw [q2] at e2
      all_goals (rcases ho with rfl | ⟨a, rfl⟩ <;> simp [X, Y, Z, xi_at hx, eM, k_ref15_order_2, hs', e0, e1, e2, hz'])
    · rcases ho with rfl | ⟨a, rfl⟩ <;> simp [X, Y, Z, xi_at hx, eM, k_ref15_order_2, hs']
  · have h0 := head_at hne
    have h9 := last_at hne
    have hx0 := fun (k : List AV → Out) (u : Tag k) => xi_head (e := eI) (k := k) (u := u) h0
    have hx9 := fun (k : List AV → Out) (u : Tag k) => xi_at (e := eI) (k := k) (u := u) h9
    have hp : 0 < e.Barred.length := List.length_pos_iff.2 hne
    have hz : (0 : Int) < e.Barred.length := by omega
    have hc : ((e.Barred.length - 1 : Nat) : Int) = (e.Barred.length : Int) - 1 := by omega
    rw [hc] at hx9
    have hw9 := wrap_nat (show e.Barred.length - 1 < 4611686018427387904 by omega)
    rw [hc] at hw9
    unfold rnumM
    generalize e.Fields.map Fld.Num = nums at e0 e1 ⊢
    cases b
    · cases q1 : riseI none nums <;> cases q2 : riseI none e.Barred <;> rw [q1] at e1 <;> rw [q2] at e2 <;> by_cases q3 : hdI e.Barred < 1 <;> by_cases q4 : 536870911 < lsI e.Barred
      all_goals (rcases ho with rfl | ⟨a, rfl⟩ <;> simp [X, Y, Z, xi_at hx, eM, eI, k_ref15_order_2, hs', e0, e1, e2, hz, hp, hx0, hx9, hw9, q3, q4])
    · rcases ho with rfl | ⟨a, rfl⟩ <;> simp [X, Y, Z, xi_at hx, eM, k_ref15_order_2, hs']
theorem R_rorder2 (s : Sch) (ok : SchOk s) (l1 : Nat) (g0 g1 b0 : Bool) : R_ref15_order_2 dd Prim.powG 1001 1001 [so s, ((10, 0), .tail l1 1 g0 g1), ((79, 0), .tail 0 1 true false)] (.ptr (1, 0) 0) (i64 0) (bl b0) (.asl (79, 0) []) (.asl (10, 0) []) .undef .undef .undef .undef .undef (.asl (79, 0) []) = some (bl (b0 || s.Messages.any rnumM || !riseP none (mNames s).tail)) := by
  have o2 := ok.messages
  have h := loop_acc s.Messages (P := fun dn r m => ∀ b g2 all, all.length ≤ dn.length → all ++ (if dn = [] then (r.map Ms.Name).tail else r.map Ms.Name) = (mNames s).tail → R_ref15_order_2 dd Prim.powG 1001 m [so s, ((10, 0), .tail l1 1 g0 g1), ((79, 0), .tail all.length 1 g2 false)] (.ptr (1, 0) 0) (i64 dn.length) (bl b) (.asl (79, 0) (ss all)) (.asl (10, 0) []) .undef .undef .undef .undef .undef (.asl (79, 0) []) = some (bl (b || r.any rnumM || !riseP none (mNames s).tail))) (by
    intro m b g2 all hl hall
    rw [R_ref15_order_2_s]
    have e2 := d_refRise all (by omega)
    have hall' : all = (mNames s).tail := by
      rw [← hall]; split <;> simp
    rw [← hall']
    cases b <;> simp [X, Y, Z, e2]) (by
    intro dn x r m he hi hx ih b g2 all hl hall
    rw [R_ref15_order_2_s]
    have hf := ok.mf x (mem_at hx)
    have hb := ok.mb x (mem_at hx)
    rcases List.eq_nil_or_concat dn with rfl | ⟨dn, y, rfl⟩
    · have h0 := J_rorder s 1001 m 0 x hx o2 hf hb l1 g0 g1 g2 .undef .undef all b _ (.inl rfl)
      have := ih (b || rnumM x) g2 all (by have hz : all.length = 0 := Nat.le_zero.1 hl; omega) (by simpa using hall)
      have hp : 0 < s.Messages.length := by simpa using hi
      have hx2 := fun (k : List AV → Out) (u : Tag k) => xi_head (e := eM) (k := k) (u := u) (show s.Messages[0]? = some x from hx)
      simp [X, Y, Z, hp]
      simp at h0
      rw [h0]
      simpa [Bool.or_assoc] using this
    · rw [List.concat_eq_append] at *
      have hne : ¬ (dn ++ [y] = []) := by simp
      rw [if_neg hne] at hall
      have hll : all.length ≤ dn.length + 1 := by simpa using hl
      have h0 := J_rorder s 1001 m (dn ++ [y]).length x hx o2 hf hb l1 g0 g1 false .undef .undef (all ++ [x.Name]) b _ (.inr ⟨.tail 1 1 true false, rfl⟩)
      have := ih (b || rnumM x) false (all ++ [x.Name]) (by simp; omega) (by rw [if_neg (by simp), List.append_assoc]; exact hall)
      rw [ss_add, List.length_append] at h0 this
      rw [List.length_append] at this
      rw [List.any_cons]
      simp only [List.length_append, List.length_cons, List.length_nil] at hi hx h0 this ⊢
      push_cast at this h0
      have hx2 := fun (k : List AV → Out) (u : Tag k) => xi_at (e := eM) (k := k) (u := u) hx
      push_cast at hx2
      have h1 : ((dn.length : Int) + (0 + 1) < s.Messages.length) := by omega
      have h1' : (0 : Int) < (dn.length : Int) + (0 + 1) := by omega
      push_cast
      simp at h1 h1' hx2
      simp [X, Y, Z, h1, h1', hx2, eM, show (all.length + 1) * 16 ≤ 70368744177664 by omega]
      rw [← Bool.or_assoc b (rnumM x)]
      exact h0.trans this) 1001 (by omega)
  exact h b0 true [] (by simp) (by simp)
def rorderF (s : Sch) : Bool := s.Enums.any (fun e => !valL (e.Values.map Vl.Num)) || !riseP none (eNames s) || s.Messages.any rnumM || !riseP none (mNames s).tail
theorem d_rorder (s : Sch) (ok : SchOk s) (hn : ∀ e ∈ s.Enums, e.Values ≠ []) : dd i_ref15_order [sch s] = some (bl (rorderF s)) := by
  refine D_runE (V := v_ref15_order) 1001 rfl rfl rfl ?_
  rw [s_ref15_order]
  have o1 := ok.enums
  have h := loop_acc s.Enums (P := fun dn r m => ∀ b mu all, all.length = dn.length → all ++ r.map En.Name = eNames s → R_ref15_order_1 dd Prim.powG 1001 m [so s, ((10, 0), .tail all.length 1 mu false)] (i64 dn.length) (.ptr (1, 0) 0) (bl b) (.asl (10, 0) (ss all)) (.asl (10, 0) []) .undef .undef .undef = some (bl (b || r.any (fun e => !valL (e.Values.map Vl.Num)) || !riseP none (eNames s) || s.Messages.any rnumM || !riseP none (mNames s).tail))) (by
    intro m b mu all hl hall
    rw [R_ref15_order_1_s]
    rw [List.map_nil, List.append_nil] at hall
    have e2 := d_refRise all (by omega)
    rw [← hall]
    cases b
    · have h0 := R_rorder2 s ok all.length false true (!riseP none all)
      simp [X, Y, Z, k_ref15_order_2, e2]
      simpa using h0
    · have h0 := R_rorder2 s ok all.length mu false true
      simp [X, Y, Z, k_ref15_order_2, e2]
      simpa using h0) (by
    intro dn x r m he hi hx ih b mu all hl hall
    rw [R_ref15_order_1_s]
    have h0 := fun b => R_rorder0 s 1001 m dn.length x hx o1 (ok.en x (mem_at hx)) (hn x (mem_at hx)) (by have := ok.en x (mem_at hx); omega) (all ++ [x.Name]) b
    have := ih (b || !valL (x.Values.map Vl.Num)) false (all ++ [x.Name]) (by rw [List.length_append, List.length_append, hl]; simp) (by rw [List.append_assoc]; exact hall)
    rw [ss_add, List.length_append] at h0 this
    rw [List.length_append] at this
    rw [List.any_cons]
    simp only [List.length_cons, List.length_nil] at h0 this
    push_cast at this
    simp [X, Y, Z, hi, xi_at hx, eE, k_ref15_order_0, show (all.length + 1) * 16 ≤ 70368744177664 by omega]
    have h1 := h0 b
    simp at h1
    rw [h1]
    simpa [Bool.or_assoc] using this) 1001 (by omega)
  have h0 := h false true [] rfl rfl
  unfold rorderF
  rw [Bool.false_or] at h0
  simp [X, Y, Z, k_ref15_order_1]
  simpa using h0
end Go.Proofs.YtmhdapjmndfkgaaGreatDoor.Sp.B
