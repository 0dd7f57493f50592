/- What is not too great; the page's example; what arguments are. -/
import Derived.Test.YtmhdapjmndfkgaaScC
namespace Go.Proofs.Ytmhdapjmndfkgaa.Sc.B
open Go Go.Proofs.Ytmhdapjmndfkgaa.Eng Go.Proofs.Ytmhdapjmndfkgaa.Eng.V
set_option linter.unusedSimpArgs false
set_option linter.unusedVariables false
open Sc
open Sc.W (lt2 riseP sl xi_at wrap_succ wrap_nat wrap_pred)
abbrev so (s : Sch) : Key × Ob := ((1, 0), .var [.fsl (s.Enums.map eE), .fsl (s.Messages.map eM)] false)
theorem wrap_id {x : Int} (h0 : 0 ≤ x) (h : x < 4611686018427387904) : IntKind.i64.wrap x = x := by
  simp [IntKind.wrap, IntKind.bits, IntKind.signed]
  omega
structure SchB (s : Sch) : Prop where
  el : s.Enums.length < 281474976710656
  ml : s.Messages.length < 281474976710656
  en : ∀ e ∈ s.Enums, e.Values.length < 281474976710656 ∧ e.Name.size < 281474976710656
  ms : ∀ m ∈ s.Messages, m.Fields.length < 281474976710656 ∧ m.Barred.length < 281474976710656 ∧ m.Name.size < 281474976710656
def sE : List En → Int → Int
  | [], n => n
  | e :: r, n => if n < 200 then sE r (n + e.Values.length + (e.Name.size : Int) / 10) else n
def sM : List Ms → Int → Int
  | [], n => n
  | m :: r, n => if n < 200 then sM r (n + m.Fields.length + m.Barred.length + (m.Name.size : Int) / 10) else n
theorem R_small1 (s : Sch) (hb : SchB s) (n0 : Int) (h0 : 0 ≤ n0) (h1 : n0 < 2251799813685248) : R_ref15_Small_1 dd (fun _ => .undef) 281474976710656 281474976710656 [so s] (.ptr (1, 0) 0) (i64 0) (i64 n0) .undef = if 200 ≤ sM s.Messages n0 then some (bl false) else R_ref15_Small_3 dd (fun _ => .undef) 281474976710656 281474976710656 [so s] (i64 0) (.ptr (1, 0) 0) .undef := by
  have hml := hb.ml
  have h := loop_acc s.Messages (P := fun dn r m => ∀ n : Int, 0 ≤ n → n < 2251799813685248 → R_ref15_Small_1 dd (fun _ => .undef) 281474976710656 m [so s] (.ptr (1, 0) 0) (i64 dn.length) (i64 n) .undef = if 200 ≤ sM r n then some (bl false) else R_ref15_Small_3 dd (fun _ => .undef) 281474976710656 281474976710656 [so s] (i64 0) (.ptr (1, 0) 0) .undef) (by
    intro m n hn hn'
    rw [R_ref15_Small_1_s]
    by_cases h2 : 200 ≤ n <;> simp [X, Y, Z, k_ref15_Small_3, sM, h2]) (by
    intro dn x r m he hi hx ih n hn hn'
    rw [R_ref15_Small_1_s]
    rw [List.length_append] at ih
    push_cast at ih
    have hs := wrap_succ (show dn.length < 4611686018427387904 by omega)
    obtain ⟨b1, b2, b3⟩ := hb.ms x (mem_at hx)
    unfold sM
    by_cases h2 : n < 200
    · have w1 := wrap_id (x := n + x.Fields.length) (by omega) (by omega)
      have w2 := wrap_id (x := n + x.Fields.length + x.Barred.length) (by omega) (by omega)
      have w3 := wrap_id (x := n + x.Fields.length + x.Barred.length + (x.Name.size : Int) / 10) (by omega) (by omega)
      have w4 := wrap_id (x := (x.Name.size : Int) / 10) (by omega) (by omega)
      have := ih (n + x.Fields.length + x.Barred.length + (x.Name.size : Int) / 10) (by omega) (by omega)
      simp [X, Y, Z, hi, xi_at hx, eM, k_ref15_Small_1, hs, h2, w1, w2, w3, w4]
      simpa using this
    · have h3 : 200 ≤ n := by omega
      simp [X, Y, Z, hi, k_ref15_Small_3, h2, h3]) 281474976710656 (by omega)
  exact h n0 h0 h1
theorem R_small0 (s : Sch) (hb : SchB s) (n0 : Int) (h0 : 0 ≤ n0) (h1 : n0 < 1125899906842624) : R_ref15_Small_0 dd (fun _ => .undef) 281474976710656 281474976710656 [so s] (.ptr (1, 0) 0) (i64 0) (i64 n0) .undef = if 200 ≤ sM s.Messages (sE s.Enums n0) then some (bl false) else R_ref15_Small_3 dd (fun _ => .undef) 281474976710656 281474976710656 [so s] (i64 0) (.ptr (1, 0) 0) .undef := by
  have hml := hb.el
  have h := loop_acc s.Enums (P := fun dn r m => ∀ n : Int, 0 ≤ n → n < 1125899906842624 → R_ref15_Small_0 dd (fun _ => .undef) 281474976710656 m [so s] (.ptr (1, 0) 0) (i64 dn.length) (i64 n) .undef = if 200 ≤ sM s.Messages (sE r n) then some (bl false) else R_ref15_Small_3 dd (fun _ => .undef) 281474976710656 281474976710656 [so s] (i64 0) (.ptr (1, 0) 0) .undef) (by
    intro m n hn hn'
    rw [R_ref15_Small_0_s]
    have h0 := R_small1 s hb n hn (by omega)
    simp [X, Y, Z, k_ref15_Small_1, sE]
    exact h0) (by
    intro dn x r m he hi hx ih n hn hn'
    rw [R_ref15_Small_0_s]
    rw [List.length_append] at ih
    push_cast at ih
    have hs := wrap_succ (show dn.length < 4611686018427387904 by omega)
    obtain ⟨b1, b3⟩ := hb.en x (mem_at hx)
    unfold sE
    by_cases h2 : n < 200
    · have w1 := wrap_id (x := n + x.Values.length) (by omega) (by omega)
      have w3 := wrap_id (x := n + x.Values.length + (x.Name.size : Int) / 10) (by omega) (by omega)
      have w4 := wrap_id (x := (x.Name.size : Int) / 10) (by omega) (by omega)
      have := ih (n + x.Values.length + (x.Name.size : Int) / 10) (by omega) (by omega)
      simp [X, Y, Z, hi, xi_at hx, eE, k_ref15_Small_0, hs, h2, w1, w3, w4]
      simpa using this
    · have h0 := R_small1 s hb n hn (by omega)
      simp [X, Y, Z, hi, k_ref15_Small_1, h2]
      simpa using h0) 281474976710656 (by omega)
  exact h n0 h0 h1
def longV (v : Vl) : Bool := decide ((1000 : Int) < v.Name.size)
def longF (f : Fld) : Bool := decide ((1000 : Int) < f.Name.size) || (decide ((1000 : Int) < f.Ref.size) || decide ((1000 : Int) < f.One.size))
abbrev big : Nat := 281474976710656
theorem R_small4 (s : Sch) (hb : SchB s) (m5 i : Nat) (e : Ms) (hx : s.Messages[i]? = some e) : R_ref15_Small_4 dd (fun _ => .undef) 281474976710656 281474976710656 m5 [so s] (i64 i) (.ptr (1, 0) 0) (i64 0) = if e.Fields.any longF = true then some (bl false) else R_ref15_Small_5 dd (fun _ => .undef) 281474976710656 m5 [so s] (i64 ((i : Int) + 1)) (.ptr (1, 0) 0) := by
  have hml := hb.ml
  have hi' : i < 281474976710656 := by have := (List.getElem?_eq_some_iff.1 hx).1; omega
  have hs' := wrap_succ (show i < 4611686018427387904 by omega)
  have hf := (hb.ms e (mem_at hx)).1
  have h := loop_acc e.Fields (P := fun dn r m => R_ref15_Small_4 dd (fun _ => .undef) 281474976710656 m m5 [so s] (i64 i) (.ptr (1, 0) 0) (i64 dn.length) = if r.any longF = true then some (bl false) else R_ref15_Small_5 dd (fun _ => .undef) 281474976710656 m5 [so s] (i64 ((i : Int) + 1)) (.ptr (1, 0) 0)) (by
    intro m
    rw [R_ref15_Small_4_s]
    simp [X, Y, Z, xi_at hx, eM, k_ref15_Small_5, hs']) (by
    intro dn x r m he hi hy ih
    rw [R_ref15_Small_4_s]
    rw [List.length_append] at ih
    push_cast at ih
    have hs := wrap_succ (show dn.length < 4611686018427387904 by omega)
    rw [List.any_cons]
    cases q1 : decide ((1000 : Int) < x.Name.size) <;> cases q2 : decide ((1000 : Int) < x.Ref.size) <;> cases q3 : decide ((1000 : Int) < x.One.size)
    · rw [show longF x = false by unfold longF; rw [q1, q2, q3]; rfl]
      simp [X, Y, Z, hi, xi_at hx, xi_at hy, eM, Fld.cells, k_ref15_Small_4, hs, q1, q2, q3]
      simpa using ih
    all_goals (
      rw [show longF x = true by unfold longF; rw [q1, q2, q3]; rfl]
      simp [X, Y, Z, hi, xi_at hx, xi_at hy, eM, Fld.cells, k_ref15_Small_4, hs, q1, q2, q3])) 281474976710656 (by omega)
  exact h
theorem R_small5 (s : Sch) (hb : SchB s) : R_ref15_Small_5 dd (fun _ => .undef) 281474976710656 281474976710656 [so s] (i64 0) (.ptr (1, 0) 0) = some (bl (!s.Messages.any fun m => m.Fields.any longF)) := by
  have hml := hb.ml
  have h := loop_acc s.Messages (P := fun dn r m => R_ref15_Small_5 dd (fun _ => .undef) 281474976710656 m [so s] (i64 dn.length) (.ptr (1, 0) 0) = some (bl (!r.any fun m => m.Fields.any longF))) (by
    intro m
    rw [R_ref15_Small_5_s]
    simp [X, Y, Z]) (by
    intro dn x r m he hi hx ih
    rw [R_ref15_Small_5_s]
    rw [List.length_append] at ih
    push_cast at ih
    have h0 := R_small4 s hb m dn.length x hx
    simp [X, Y, Z, hi, k_ref15_Small_4]
    rw [h0]
    cases hc : x.Fields.any longF <;> simp
    simpa using ih) 281474976710656 (by omega)
  exact h
theorem R_small2 (s : Sch) (hb : SchB s) (m3 i : Nat) (e : En) (hx : s.Enums[i]? = some e) : R_ref15_Small_2 dd (fun _ => .undef) 281474976710656 281474976710656 m3 [so s] (i64 i) (.ptr (1, 0) 0) (i64 0) .undef = if e.Values.any longV = true then some (bl false) else R_ref15_Small_3 dd (fun _ => .undef) 281474976710656 m3 [so s] (i64 ((i : Int) + 1)) (.ptr (1, 0) 0) .undef := by
  have hml := hb.el
  have hi' : i < 281474976710656 := by have := (List.getElem?_eq_some_iff.1 hx).1; omega
  have hs' := wrap_succ (show i < 4611686018427387904 by omega)
  have hf := (hb.en e (mem_at hx)).1
  have h := loop_acc e.Values (P := fun dn r m => R_ref15_Small_2 dd (fun _ => .undef) 281474976710656 m m3 [so s] (i64 i) (.ptr (1, 0) 0) (i64 dn.length) .undef = if r.any longV = true then some (bl false) else R_ref15_Small_3 dd (fun _ => .undef) 281474976710656 m3 [so s] (i64 ((i : Int) + 1)) (.ptr (1, 0) 0) .undef) (by
    intro m
    rw [R_ref15_Small_2_s]
    simp [X, Y, Z, xi_at hx, eE, k_ref15_Small_3, hs']) (by
    intro dn x r m he hi hy ih
    rw [R_ref15_Small_2_s]
    rw [List.length_append] at ih
    push_cast at ih
    have hs := wrap_succ (show dn.length < 4611686018427387904 by omega)
    rw [List.any_cons]
    by_cases q1 : (1000 : Int) < x.Name.size
    · rw [show longV x = true by unfold longV; rw [decide_eq_true_eq]; exact q1]
      simp [X, Y, Z, hi, xi_at hx, xi_at hy, eE, eV, k_ref15_Small_2, hs, q1]
    · rw [show longV x = false by unfold longV; rw [decide_eq_false_iff_not]; exact q1]
      simp [X, Y, Z, hi, xi_at hx, xi_at hy, eE, eV, k_ref15_Small_2, hs, q1]
      simpa using ih) 281474976710656 (by omega)
  exact h
theorem R_small3 (s : Sch) (hb : SchB s) : R_ref15_Small_3 dd (fun _ => .undef) 281474976710656 281474976710656 [so s] (i64 0) (.ptr (1, 0) 0) .undef = some (bl (!(s.Enums.any fun e => e.Values.any longV) && !s.Messages.any fun m => m.Fields.any longF)) := by
  have hml := hb.el
  have h := loop_acc s.Enums (P := fun dn r m => R_ref15_Small_3 dd (fun _ => .undef) 281474976710656 m [so s] (i64 dn.length) (.ptr (1, 0) 0) .undef = some (bl (!(r.any fun e => e.Values.any longV) && !s.Messages.any fun m => m.Fields.any longF))) (by
    intro m
    rw [R_ref15_Small_3_s]
    have h0 := R_small5 s hb
    simp [X, Y, Z, k_ref15_Small_5]
    exact h0) (by
    intro dn x r m he hi hx ih
    rw [R_ref15_Small_3_s]
    rw [List.length_append] at ih
    push_cast at ih
    have h0 := R_small2 s hb m dn.length x hx
    simp [X, Y, Z, hi, k_ref15_Small_2]
    rw [h0]
    cases hc : x.Values.any longV <;> simp
    simpa using ih) 281474976710656 (by omega)
  exact h
def smallF (s : Sch) : Bool := !decide (200 ≤ sM s.Messages (sE s.Enums ((s.Enums.length : Int) + s.Messages.length))) && (!(s.Enums.any fun e => e.Values.any longV) && !s.Messages.any fun m => m.Fields.any longF)
theorem d_rSmall (s : Sch) (hb : SchB s) : dd i_ref15_Small [sch s] = some (bl (smallF s)) := by
  refine D_runE (V := v_ref15_Small) 281474976710656 rfl rfl rfl ?_
  rw [s_ref15_Small]
  have b1 := hb.el
  have b2 := hb.ml
  have h0 := R_small0 s hb ((s.Enums.length : Int) + s.Messages.length) (by omega) (by omega)
  rw [R_small3 s hb] at h0
  have w := wrap_id (x := (s.Enums.length : Int) + s.Messages.length) (by omega) (by omega)
  simp [X, Y, Z, k_ref15_Small_0, w]
  refine h0.trans ?_
  unfold smallF
  by_cases h : 200 ≤ sM s.Messages (sE s.Enums ((s.Enums.length : Int) + s.Messages.length)) <;> simp [h]
theorem sE_ge : ∀ (l : List En) (n : Int), n ≤ sE l n
  | [], n => Int.le_refl _
  | e :: r, n => by
    unfold sE
    split
    · have := sE_ge r (n + e.Values.length + (e.Name.size : Int) / 10); omega
    · exact Int.le_refl _
theorem sE_all : ∀ (l : List En) (n : Int), 0 ≤ n → sE l n < 200 → ∀ e ∈ l, e.Values.length < 1000
  | [], _, _, _, e, h => by cases h
  | x :: r, n, hn, h, e, he => by
    unfold sE at h
    split at h
    · have h1 := sE_ge r (n + x.Values.length + (x.Name.size : Int) / 10)
      rcases List.mem_cons.1 he with rfl | he
      · omega
      · exact sE_all r _ (by omega) h e he
    · omega
theorem sM_ge : ∀ (l : List Ms) (n : Int), n ≤ sM l n
  | [], n => Int.le_refl _
  | e :: r, n => by
    unfold sM
    split
    · have := sM_ge r (n + e.Fields.length + e.Barred.length + (e.Name.size : Int) / 10); omega
    · exact Int.le_refl _
theorem sM_all : ∀ (l : List Ms) (n : Int), 0 ≤ n → sM l n < 200 → ∀ e ∈ l, e.Fields.length < 1000 ∧ e.Barred.length < 1000
  | [], _, _, _, e, h => by cases h
  | x :: r, n, hn, h, e, he => by
    unfold sM at h
    split at h
    · have h1 := sM_ge r (n + x.Fields.length + x.Barred.length + (x.Name.size : Int) / 10)
      rcases List.mem_cons.1 he with rfl | he
      · omega
      · exact sM_all r _ (by omega) h e he
    · omega
theorem small_ok (s : Sch) (h : smallF s = true) : SchOk s := by
  unfold smallF at h
  rw [Bool.and_eq_true] at h
  have h1 : sM s.Messages (sE s.Enums ((s.Enums.length : Int) + s.Messages.length)) < 200 := by
    have := h.1; simp at this; omega
  have h2 := sM_ge s.Messages (sE s.Enums ((s.Enums.length : Int) + s.Messages.length))
  have h3 := sE_ge s.Enums ((s.Enums.length : Int) + s.Messages.length)
  have h4 := sE_all s.Enums ((s.Enums.length : Int) + s.Messages.length) (by omega) (by omega)
  have h5 := sM_all s.Messages _ (by omega) h1
  exact ⟨by omega, by omega, h4, fun m hm => (h5 m hm).1, fun m hm => (h5 m hm).2⟩
def S1 : Sch := ⟨[], [⟨⟨#[77]⟩, [⟨⟨#[97]⟩, 1, 15, ⟨#[77]⟩, false, false, noS⟩], []⟩]⟩
def S0 : Sch := ⟨[], []⟩
theorem d_num (x : AV) (hx : frz x = some x ∧ True) (n : Int) : dd i_law15_num [i64 n] = some (i64 n) := by
  refine D_runE (V := v_law15_num) 1 rfl rfl rfl ?_
  rw [s_law15_num]
  simp [X, Y, Z]
theorem d_live : dd i_law15_live [] = some (bl true) := by
  refine D_runE (V := v_law15_live) 1 rfl rfl rfl ?_
  rw [s_law15_live]
  have e1 := d_sCheck S1 (by unfold S1; constructor <;> simp)
  have e0 := d_sCheck S0 (by unfold S0; constructor <;> simp)
  rw [show sCheckF S1 = 0 by kernel_rfl] at e1
  rw [show sCheckF S0 = 5 by kernel_rfl] at e0
  have e1 : dd i_schema_Check [.agg [.fsl [], .fsl [[st ⟨#[77]⟩, .fsl [[st ⟨#[97]⟩, i64 1, i64 15, st ⟨#[77]⟩, bl false, bl false, st ⟨#[]⟩]], .fsl []]]]] = some (i64 0) := e1
  have e0 : dd i_schema_Check [.agg [.fsl [], .fsl []]] = some (i64 5) := e0
  have n0 := d_num (i64 0) ⟨rfl, trivial⟩
  simp [X, Y, Z, e1, e0, n0]
theorem list_inv {α : Type} {t : TypeId} (e : α → List AV) (Q : α → Prop) (h : ∀ c, AvT Try.prog t c → ∃ x, c = e x ∧ Q x) : ∀ es : List (List AV), (∀ c ∈ es, AvT Try.prog t c) → ∃ l : List α, es = l.map e ∧ ∀ x ∈ l, Q x
  | [], _ => ⟨[], rfl, fun x hx => by cases hx⟩
  | c :: es, hc => by
    obtain ⟨x, rfl, hq⟩ := h c (hc c List.mem_cons_self)
    obtain ⟨l, rfl, hl⟩ := list_inv e Q h es fun c' h' => hc c' (List.mem_cons_of_mem _ h')
    refine ⟨x :: l, rfl, fun y hy => ?_⟩
    rcases List.mem_cons.1 hy with rfl | hy
    · exact hq
    · exact hl y hy
theorem val_inv (l : List AV) (h : AvT Try.prog 43 l) : ∃ v : Vl, l = eV v ∧ True := by
  obtain ⟨ps, rfl, hn⟩ := h.fields (ts := [9, 3]) (by kernel_rfl) (by kernel_rfl)
  match ps, hn with
  | [p0, p1], ⟨h0, h1, _⟩ =>
    obtain ⟨a, rfl, ha⟩ := h0.str_inv Try.underlying9
    obtain ⟨b, rfl, _⟩ := h1.int_inv Try.underlying3
    exact ⟨⟨a, b⟩, rfl, trivial⟩
theorem fld_inv (l : List AV) (h : AvT Try.prog 36 l) : ∃ f : Fld, l = f.cells ∧ True := by
  obtain ⟨ps, rfl, hn⟩ := h.fields (ts := [9, 3, 3, 9, 4, 4, 9]) (by kernel_rfl) (by kernel_rfl)
  match ps, hn with
  | [p0, p1, p2, p3, p4, p5, p6], ⟨h0, h1, h2, h3, h4, h5, h6, _⟩ =>
    obtain ⟨a, rfl, ha⟩ := h0.str_inv Try.underlying9
    obtain ⟨b, rfl, _⟩ := h1.int_inv Try.underlying3
    obtain ⟨c, rfl, _⟩ := h2.int_inv Try.underlying3
    obtain ⟨d, rfl, hd⟩ := h3.str_inv Try.underlying9
    obtain ⟨e, rfl⟩ := h4.bool_inv Try.underlying4
    obtain ⟨g, rfl⟩ := h5.bool_inv Try.underlying4
    obtain ⟨i, rfl, hi⟩ := h6.str_inv Try.underlying9
    exact ⟨⟨a, b, c, d, e, g, i⟩, rfl, trivial⟩
theorem int_inv1 (l : List AV) (h : AvT Try.prog 3 l) : ∃ n : Int, l = eI n ∧ True := by
  obtain ⟨b, rfl, _⟩ := h.int_inv Try.underlying3
  exact ⟨b, rfl, trivial⟩
theorem enum_inv (l : List AV) (h : AvT Try.prog 41 l) : ∃ e : En, l = eE e ∧ e.Values.length < 281474976710656 ∧ e.Name.size < 281474976710656 := by
  obtain ⟨ps, rfl, hn⟩ := h.fields (ts := [9, 39]) (by kernel_rfl) (by kernel_rfl)
  match ps, hn with
  | [p0, p1], ⟨h0, h1, _⟩ =>
    obtain ⟨a, rfl, ha⟩ := h0.str_inv Try.underlying9
    obtain ⟨es, rfl, hl, he⟩ := h1.slice_inv Try.underlying39
    obtain ⟨vs, rfl, _⟩ := list_inv eV (fun _ => True) val_inv es he
    rw [show (Try.prog).bytesOf 43 = 24 by kernel_rfl, List.length_map] at hl
    exact ⟨⟨a, vs⟩, rfl, by show vs.length < _; omega, by show a.size < _; omega⟩
theorem mes_inv (l : List AV) (h : AvT Try.prog 34 l) : ∃ m : Ms, l = eM m ∧ m.Fields.length < 281474976710656 ∧ m.Barred.length < 281474976710656 ∧ m.Name.size < 281474976710656 := by
  obtain ⟨ps, rfl, hn⟩ := h.fields (ts := [9, 31, 32]) (by kernel_rfl) (by kernel_rfl)
  match ps, hn with
  | [p0, p1, p2], ⟨h0, h1, h2, _⟩ =>
    obtain ⟨a, rfl, ha⟩ := h0.str_inv Try.underlying9
    obtain ⟨es, rfl, hl, he⟩ := h1.slice_inv Try.underlying31
    obtain ⟨fs, rfl, _⟩ := list_inv Fld.cells (fun _ => True) fld_inv es he
    obtain ⟨es', rfl, hl', he'⟩ := h2.slice_inv Try.underlying32
    obtain ⟨bs, rfl, _⟩ := list_inv eI (fun _ => True) int_inv1 es' he'
    rw [show (Try.prog).bytesOf 36 = 72 by kernel_rfl, List.length_map] at hl
    rw [show (Try.prog).bytesOf 3 = 8 by kernel_rfl, List.length_map] at hl'
    exact ⟨⟨a, fs, bs⟩, rfl, by show fs.length < _; omega, by show bs.length < _; omega, by show a.size < _; omega⟩
theorem sch_inv (l : List AV) (h : AvT Try.prog 25 l) : ∃ s : Sch, AV.agg l = sch s ∧ SchB s := by
  obtain ⟨ps, rfl, hn⟩ := h.fields (ts := [22, 23]) (by kernel_rfl) (by kernel_rfl)
  match ps, hn with
  | [p0, p1], ⟨h0, h1, _⟩ =>
    obtain ⟨es, rfl, hl, he⟩ := h0.slice_inv Try.underlying22
    obtain ⟨en, rfl, hen⟩ := list_inv eE _ enum_inv es he
    obtain ⟨es', rfl, hl', he'⟩ := h1.slice_inv Try.underlying23
    obtain ⟨ms, rfl, hms⟩ := list_inv eM _ mes_inv es' he'
    rw [show (Try.prog).bytesOf 41 = 40 by kernel_rfl, List.length_map] at hl
    rw [show (Try.prog).bytesOf 34 = 64 by kernel_rfl, List.length_map] at hl'
    exact ⟨⟨en, ms⟩, rfl, by show en.length < _; omega, by show ms.length < _; omega, hen, hms⟩
end Go.Proofs.Ytmhdapjmndfkgaa.Sc.B
