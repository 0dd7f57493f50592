/- The statements. -/
import Derived.Test.YtmhdapjmndfkgaaGreatDoorSpS
namespace Go.Proofs.YtmhdapjmndfkgaaGreatDoor.Sp.B
open Go Go.Proofs.YtmhdapjmndfkgaaGreatDoor.Eng Go.Proofs.YtmhdapjmndfkgaaGreatDoor.Eng.V
set_option linter.unusedSimpArgs false
set_option linter.unusedVariables false
open Sp
open Sp.W (lt2 riseP sl xi_at wrap_succ wrap_nat wrap_pred)
theorem list_inv {α : Type} {t : TypeId} (e : α → List AV) (Q : α → Prop) (h : ∀ c, AvT Tryz.prog t c → ∃ x, c = e x ∧ Q x) : ∀ es : List (List AV), (∀ c ∈ es, AvT Tryz.prog t c) → ∃ l : List α, es = l.map e ∧ ∀ x ∈ l, Q x
  | [], _ => ⟨[], rfl, fun x hx => by cases hx⟩
  | c :: es, hc => by
    obtain ⟨x, rfl, hq⟩ := h c (hc c List.mem_cons_self)
    obtain ⟨l, rfl, hl⟩ := list_inv e Q h es fun c' h' => hc c' (List.mem_cons_of_mem _ h')
    refine ⟨x :: l, rfl, fun y hy => ?_⟩
    rcases List.mem_cons.1 hy with rfl | hy
    · exact hq
    · exact hl y hy
theorem val_inv (l : List AV) (h : AvT Tryz.prog 54 l) : ∃ v : Vl, l = eV v ∧ True := by
  obtain ⟨ps, rfl, hn⟩ := h.fields (ts := [9, 3]) (by kernel_rfl) (by kernel_rfl)
  match ps, hn with
  | [p0, p1], ⟨h0, h1, _⟩ =>
    obtain ⟨a, rfl, ha⟩ := h0.str_inv Tryz.underlying9
    obtain ⟨b, rfl, _⟩ := h1.int_inv Tryz.underlying3
    exact ⟨⟨a, b⟩, rfl, trivial⟩
theorem fld_inv (l : List AV) (h : AvT Tryz.prog 56 l) : ∃ f : Fld, l = f.cells ∧ True := by
  obtain ⟨ps, rfl, hn⟩ := h.fields (ts := [9, 3, 3, 9, 4, 4, 9]) (by kernel_rfl) (by kernel_rfl)
  match ps, hn with
  | [p0, p1, p2, p3, p4, p5, p6], ⟨h0, h1, h2, h3, h4, h5, h6, _⟩ =>
    obtain ⟨a, rfl, ha⟩ := h0.str_inv Tryz.underlying9
    obtain ⟨b, rfl, _⟩ := h1.int_inv Tryz.underlying3
    obtain ⟨c, rfl, _⟩ := h2.int_inv Tryz.underlying3
    obtain ⟨d, rfl, hd⟩ := h3.str_inv Tryz.underlying9
    obtain ⟨e, rfl⟩ := h4.bool_inv Tryz.underlying4
    obtain ⟨g, rfl⟩ := h5.bool_inv Tryz.underlying4
    obtain ⟨i, rfl, hi⟩ := h6.str_inv Tryz.underlying9
    exact ⟨⟨a, b, c, d, e, g, i⟩, rfl, trivial⟩
theorem int_inv1 (l : List AV) (h : AvT Tryz.prog 3 l) : ∃ n : Int, l = eI n ∧ True := by
  obtain ⟨b, rfl, _⟩ := h.int_inv Tryz.underlying3
  exact ⟨b, rfl, trivial⟩
theorem enum_inv (l : List AV) (h : AvT Tryz.prog 49 l) : ∃ e : En, l = eE e ∧ e.Values.length < 281474976710656 ∧ e.Name.size < 281474976710656 := by
  obtain ⟨ps, rfl, hn⟩ := h.fields (ts := [9, 47]) (by kernel_rfl) (by kernel_rfl)
  match ps, hn with
  | [p0, p1], ⟨h0, h1, _⟩ =>
    obtain ⟨a, rfl, ha⟩ := h0.str_inv Tryz.underlying9
    obtain ⟨es, rfl, hl, he⟩ := h1.slice_inv Tryz.underlying47
    obtain ⟨vs, rfl, _⟩ := list_inv eV (fun _ => True) val_inv es he
    rw [show (Tryz.prog).bytesOf 54 = 24 by kernel_rfl, List.length_map] at hl
    exact ⟨⟨a, vs⟩, rfl, by show vs.length < _; omega, by show a.size < _; omega⟩
theorem mes_inv (l : List AV) (h : AvT Tryz.prog 45 l) : ∃ m : Ms, l = eM m ∧ m.Fields.length < 281474976710656 ∧ m.Barred.length < 281474976710656 ∧ m.Name.size < 281474976710656 := by
  obtain ⟨ps, rfl, hn⟩ := h.fields (ts := [9, 42, 43]) (by kernel_rfl) (by kernel_rfl)
  match ps, hn with
  | [p0, p1, p2], ⟨h0, h1, h2, _⟩ =>
    obtain ⟨a, rfl, ha⟩ := h0.str_inv Tryz.underlying9
    obtain ⟨es, rfl, hl, he⟩ := h1.slice_inv Tryz.underlying42
    obtain ⟨fs, rfl, _⟩ := list_inv Fld.cells (fun _ => True) fld_inv es he
    obtain ⟨es', rfl, hl', he'⟩ := h2.slice_inv Tryz.underlying43
    obtain ⟨bs, rfl, _⟩ := list_inv eI (fun _ => True) int_inv1 es' he'
    rw [show (Tryz.prog).bytesOf 56 = 72 by kernel_rfl, List.length_map] at hl
    rw [show (Tryz.prog).bytesOf 3 = 8 by kernel_rfl, List.length_map] at hl'
    exact ⟨⟨a, fs, bs⟩, rfl, by show fs.length < _; omega, by show bs.length < _; omega, by show a.size < _; omega⟩
theorem sch_inv (l : List AV) (h : AvT Tryz.prog 25 l) : ∃ s : Sch, AV.agg l = sch s ∧ SchB s := by
  obtain ⟨ps, rfl, hn⟩ := h.fields (ts := [22, 23]) (by kernel_rfl) (by kernel_rfl)
  match ps, hn with
  | [p0, p1], ⟨h0, h1, _⟩ =>
    obtain ⟨es, rfl, hl, he⟩ := h0.slice_inv Tryz.underlying22
    obtain ⟨en, rfl, hen⟩ := list_inv eE _ enum_inv es he
    obtain ⟨es', rfl, hl', he'⟩ := h1.slice_inv Tryz.underlying23
    obtain ⟨ms, rfl, hms⟩ := list_inv eM _ mes_inv es' he'
    rw [show (Tryz.prog).bytesOf 49 = 40 by kernel_rfl, List.length_map] at hl
    rw [show (Tryz.prog).bytesOf 45 = 64 by kernel_rfl, List.length_map] at hl'
    exact ⟨⟨en, ms⟩, rfl, by show en.length < _; omega, by show ms.length < _; omega, hen, hms⟩
theorem law_SprintTexts (l0 : List AV) (h0 : AvT Tryz.prog 25 l0) : D defs Prim.primsJ Prim.powG i_law17_SprintTexts [argA true l0] = some (.v (.bool true)) := by
  obtain ⟨s, e, hb⟩ := sch_inv l0 h0
  show dd i_law17_SprintTexts [AV.agg l0] = _
  rw [e]
  exact d_SprintTexts s hb
theorem law_SprintOne (l0 l1 : List AV) (h0 : AvT Tryz.prog 25 l0) (h1 : AvT Tryz.prog 25 l1) : D defs Prim.primsJ Prim.powG i_law17_SprintOne [argA true l0, argA true l1] = some (.v (.bool true)) := by
  obtain ⟨s, e, hb⟩ := sch_inv l0 h0
  obtain ⟨t, e', hb'⟩ := sch_inv l1 h1
  show dd i_law17_SprintOne [AV.agg l0, AV.agg l1] = _
  rw [e, e']
  exact d_SprintOne s t hb hb'
theorem law_SprintParts (l0 : List AV) (h0 : AvT Tryz.prog 25 l0) : D defs Prim.primsJ Prim.powG i_law17_SprintParts [argA true l0] = some (.v (.bool true)) := by
  obtain ⟨s, e, hb⟩ := sch_inv l0 h0
  show dd i_law17_SprintParts [AV.agg l0] = _
  rw [e]
  exact d_SprintParts s hb
end Go.Proofs.YtmhdapjmndfkgaaGreatDoor.Sp.B
