/- The law of which schemas may be. -/
import Derived.Test.YtmhdapjmndfkgaaGreatSkH
namespace Go.Proofs.YtmhdapjmndfkgaaGreat.Sk.B
open Go Go.Proofs.YtmhdapjmndfkgaaGreat.Eng Go.Proofs.YtmhdapjmndfkgaaGreat.Eng.V
set_option linter.unusedSimpArgs false
set_option linter.unusedVariables false
open Sk
open Sk.W (lt2 riseP sl xi_at wrap_succ wrap_nat wrap_pred)
theorem sE_ge : ∀ (l : List En) (n : Int), n ≤ sE l n
  | [], n => Int.le_refl _
  | e :: r, n => by
    unfold sE
    split
    · have := sE_ge r (n + e.Values.length + (e.Name.size : Int) / 10); omega
    · exact Int.le_refl _
theorem sE_all : ∀ (l : List En) (n : Int), 0 ≤ n → sE l n < 200 → ∀ e ∈ l, e.Values.length < 1000
  | [], _, _, _, e, h => by cases h
  | x :: r, n, hn, h, e, he => by
    unfold sE at h
    split at h
    · have h1 := sE_ge r (n + x.Values.length + (x.Name.size : Int) / 10)
      rcases List.mem_cons.1 he with rfl | he
      · omega
      · exact sE_all r _ (by omega) h e he
    · omega
theorem sM_ge : ∀ (l : List Ms) (n : Int), n ≤ sM l n
  | [], n => Int.le_refl _
  | e :: r, n => by
    unfold sM
    split
    · have := sM_ge r (n + e.Fields.length + e.Barred.length + (e.Name.size : Int) / 10); omega
    · exact Int.le_refl _
theorem sM_all : ∀ (l : List Ms) (n : Int), 0 ≤ n → sM l n < 200 → ∀ e ∈ l, e.Fields.length < 1000 ∧ e.Barred.length < 1000
  | [], _, _, _, e, h => by cases h
  | x :: r, n, hn, h, e, he => by
    unfold sM at h
    split at h
    · have h1 := sM_ge r (n + x.Fields.length + x.Barred.length + (x.Name.size : Int) / 10)
      rcases List.mem_cons.1 he with rfl | he
      · omega
      · exact sM_all r _ (by omega) h e he
    · omega
theorem small_ok (s : Sch) (h : smallF s = true) : SchOk s := by
  unfold smallF at h
  rw [Bool.and_eq_true] at h
  have h1 : sM s.Messages (sE s.Enums ((s.Enums.length : Int) + s.Messages.length)) < 200 := by
    have := h.1; simp at this; omega
  have h2 := sM_ge s.Messages (sE s.Enums ((s.Enums.length : Int) + s.Messages.length))
  have h3 := sE_ge s.Enums ((s.Enums.length : Int) + s.Messages.length)
  have h4 := sE_all s.Enums ((s.Enums.length : Int) + s.Messages.length) (by omega) (by omega)
  have h5 := sM_all s.Messages _ (by omega) h1
  exact ⟨by omega, by omega, h4, fun m hm => (h5 m hm).1, fun m hm => (h5 m hm).2⟩
def S1 : Sch := ⟨[], [⟨⟨#[77]⟩, [⟨⟨#[97]⟩, 1, 15, ⟨#[77]⟩, false, false, noS⟩], []⟩]⟩
def S0 : Sch := ⟨[], []⟩
theorem d_num (x : AV) (hx : frz x = some x ∧ True) (n : Int) : dd i_law15_num [i64 n] = some (i64 n) := by
  refine D_runE (V := v_law15_num) 1 rfl rfl rfl ?_
  rw [s_law15_num]
  simp [X, Y, Z]
theorem d_live : dd i_law15_live [] = some (bl true) := by
  refine D_runE (V := v_law15_live) 1 rfl rfl rfl ?_
  rw [s_law15_live]
  have e1 := d_sCheck S1 (by unfold S1; constructor <;> simp)
  have e0 := d_sCheck S0 (by unfold S0; constructor <;> simp)
  rw [show sCheckF S1 = 0 by kernel_rfl] at e1
  rw [show sCheckF S0 = 5 by kernel_rfl] at e0
  have e1 : dd i_schema_Check [.agg [.fsl [], .fsl [[st ⟨#[77]⟩, .fsl [[st ⟨#[97]⟩, i64 1, i64 15, st ⟨#[77]⟩, bl false, bl false, st ⟨#[]⟩]], .fsl []]]]] = some (i64 0) := e1
  have e0 : dd i_schema_Check [.agg [.fsl [], .fsl []]] = some (i64 5) := e0
  have n0 := d_num (i64 0) ⟨rfl, trivial⟩
  simp [X, Y, Z, e1, e0, n0]
theorem d_SchemaChecks (s : Sch) (hb : SchB s) : dd i_law15_SchemaChecks [sch s] = some (bl true) := by
  refine D_runE (V := v_law15_SchemaChecks) 1 rfl rfl rfl ?_
  rw [s_law15_SchemaChecks]
  have e0 := d_rSmall s hb
  have n0 := d_num (i64 0) ⟨rfl, trivial⟩
  cases h : smallF s <;> rw [h] at e0
  · simp [X, Y, Z, e0, d_live]
  · have ok := small_ok s h
    simp [X, Y, Z, e0, d_live, d_sCheck s ok, d_rCheckS s ok, n0, check15_eq]
theorem list_inv {α : Type} {t : TypeId} (e : α → List AV) (Q : α → Prop) (h : ∀ c, AvT Tryz.prog t c → ∃ x, c = e x ∧ Q x) : ∀ es : List (List AV), (∀ c ∈ es, AvT Tryz.prog t c) → ∃ l : List α, es = l.map e ∧ ∀ x ∈ l, Q x
  | [], _ => ⟨[], rfl, fun x hx => by cases hx⟩
  | c :: es, hc => by
    obtain ⟨x, rfl, hq⟩ := h c (hc c List.mem_cons_self)
    obtain ⟨l, rfl, hl⟩ := list_inv e Q h es fun c' h' => hc c' (List.mem_cons_of_mem _ h')
    refine ⟨x :: l, rfl, fun y hy => ?_⟩
    rcases List.mem_cons.1 hy with rfl | hy
    · exact hq
    · exact hl y hy
theorem val_inv (l : List AV) (h : AvT Tryz.prog 44 l) : ∃ v : Vl, l = eV v ∧ True := by
  obtain ⟨ps, rfl, hn⟩ := h.fields (ts := [9, 3]) (by kernel_rfl) (by kernel_rfl)
  match ps, hn with
  | [p0, p1], ⟨h0, h1, _⟩ =>
    obtain ⟨a, rfl, ha⟩ := h0.str_inv Tryz.underlying9
    obtain ⟨b, rfl, _⟩ := h1.int_inv Tryz.underlying3
    exact ⟨⟨a, b⟩, rfl, trivial⟩
theorem fld_inv (l : List AV) (h : AvT Tryz.prog 39 l) : ∃ f : Fld, l = f.cells ∧ True := by
  obtain ⟨ps, rfl, hn⟩ := h.fields (ts := [9, 3, 3, 9, 4, 4, 9]) (by kernel_rfl) (by kernel_rfl)
  match ps, hn with
  | [p0, p1, p2, p3, p4, p5, p6], ⟨h0, h1, h2, h3, h4, h5, h6, _⟩ =>
    obtain ⟨a, rfl, ha⟩ := h0.str_inv Tryz.underlying9
    obtain ⟨b, rfl, _⟩ := h1.int_inv Tryz.underlying3
    obtain ⟨c, rfl, _⟩ := h2.int_inv Tryz.underlying3
    obtain ⟨d, rfl, hd⟩ := h3.str_inv Tryz.underlying9
    obtain ⟨e, rfl⟩ := h4.bool_inv Tryz.underlying4
    obtain ⟨g, rfl⟩ := h5.bool_inv Tryz.underlying4
    obtain ⟨i, rfl, hi⟩ := h6.str_inv Tryz.underlying9
    exact ⟨⟨a, b, c, d, e, g, i⟩, rfl, trivial⟩
theorem int_inv1 (l : List AV) (h : AvT Tryz.prog 3 l) : ∃ n : Int, l = eI n ∧ True := by
  obtain ⟨b, rfl, _⟩ := h.int_inv Tryz.underlying3
  exact ⟨b, rfl, trivial⟩
theorem enum_inv (l : List AV) (h : AvT Tryz.prog 42 l) : ∃ e : En, l = eE e ∧ e.Values.length < 281474976710656 ∧ e.Name.size < 281474976710656 := by
  obtain ⟨ps, rfl, hn⟩ := h.fields (ts := [9, 40]) (by kernel_rfl) (by kernel_rfl)
  match ps, hn with
  | [p0, p1], ⟨h0, h1, _⟩ =>
    obtain ⟨a, rfl, ha⟩ := h0.str_inv Tryz.underlying9
    obtain ⟨es, rfl, hl, he⟩ := h1.slice_inv Tryz.underlying40
    obtain ⟨vs, rfl, _⟩ := list_inv eV (fun _ => True) val_inv es he
    rw [show (Tryz.prog).bytesOf 44 = 24 by kernel_rfl, List.length_map] at hl
    exact ⟨⟨a, vs⟩, rfl, by show vs.length < _; omega, by show a.size < _; omega⟩
theorem mes_inv (l : List AV) (h : AvT Tryz.prog 37 l) : ∃ m : Ms, l = eM m ∧ m.Fields.length < 281474976710656 ∧ m.Barred.length < 281474976710656 ∧ m.Name.size < 281474976710656 := by
  obtain ⟨ps, rfl, hn⟩ := h.fields (ts := [9, 34, 35]) (by kernel_rfl) (by kernel_rfl)
  match ps, hn with
  | [p0, p1, p2], ⟨h0, h1, h2, _⟩ =>
    obtain ⟨a, rfl, ha⟩ := h0.str_inv Tryz.underlying9
    obtain ⟨es, rfl, hl, he⟩ := h1.slice_inv Tryz.underlying34
    obtain ⟨fs, rfl, _⟩ := list_inv Fld.cells (fun _ => True) fld_inv es he
    obtain ⟨es', rfl, hl', he'⟩ := h2.slice_inv Tryz.underlying35
    obtain ⟨bs, rfl, _⟩ := list_inv eI (fun _ => True) int_inv1 es' he'
    rw [show (Tryz.prog).bytesOf 39 = 72 by kernel_rfl, List.length_map] at hl
    rw [show (Tryz.prog).bytesOf 3 = 8 by kernel_rfl, List.length_map] at hl'
    exact ⟨⟨a, fs, bs⟩, rfl, by show fs.length < _; omega, by show bs.length < _; omega, by show a.size < _; omega⟩
theorem sch_inv (l : List AV) (h : AvT Tryz.prog 25 l) : ∃ s : Sch, AV.agg l = sch s ∧ SchB s := by
  obtain ⟨ps, rfl, hn⟩ := h.fields (ts := [22, 23]) (by kernel_rfl) (by kernel_rfl)
  match ps, hn with
  | [p0, p1], ⟨h0, h1, _⟩ =>
    obtain ⟨es, rfl, hl, he⟩ := h0.slice_inv Tryz.underlying22
    obtain ⟨en, rfl, hen⟩ := list_inv eE _ enum_inv es he
    obtain ⟨es', rfl, hl', he'⟩ := h1.slice_inv Tryz.underlying23
    obtain ⟨ms, rfl, hms⟩ := list_inv eM _ mes_inv es' he'
    rw [show (Tryz.prog).bytesOf 42 = 40 by kernel_rfl, List.length_map] at hl
    rw [show (Tryz.prog).bytesOf 37 = 64 by kernel_rfl, List.length_map] at hl'
    exact ⟨⟨en, ms⟩, rfl, by show en.length < _; omega, by show ms.length < _; omega, hen, hms⟩
theorem law_SchemaChecks (l0 : List AV) (h0 : AvT Tryz.prog 25 l0) : D defs Prim.primsG (fun _ => .undef) i_law15_SchemaChecks [argA true l0] = some (.v (.bool true)) := by
  obtain ⟨s, e, hb⟩ := sch_inv l0 h0
  show dd i_law15_SchemaChecks [AV.agg l0] = _
  rw [e]
  exact d_SchemaChecks s hb
end Go.Proofs.YtmhdapjmndfkgaaGreat.Sk.B
