/- How an argument that reads as data is laid open into the printed readings: by the type's shape (integers, bools, strings, slices, structs). Over any program. No condition. -/
import Derived.WalkKit
import Derived.ProofKit
import Derived.SizedLaws
import Derived.Lib.LaidTab
import Derived.Test.YticmmpiffekbiaaDoorWWords
namespace Go.Proofs.YticmmpiffekbiaaDoor.Px
open Go.RowKit Go.Proofs.YticmmpiffekbiaaDoorW.PrintWords
set_option linter.unusedSimpArgs false
set_option linter.unusedVariables false

/-- What reads as data at type t, its strings and slices within the reach, has a value with these cells, and of that Wf holds. -/
def Opn (P : Program) (w : World) (t : TypeId) {α : Type} (K : α → List Value → Prop) (Wf : α → Prop) : Prop :=
  ∀ (H : Type) (enc : TypeId × Value → H) (spare : Nat → Bool) (held : Bool) (fuel : Nat) (cs : List Value) (d : DataW H) (p : List MemPlace),
    DataW.trod enc P w 0 spare held fuel t cs = some (d, p) → (∀ n ∈ d.weights P t, n ≤ 140737488351232) → ∃ x, K x cs ∧ Wf x
section
variable {P : Program} {w : World} {t e : TypeId}
theorem opn_int {k : IntKind} (ht : P.underlying t = some (.int k)) : Opn P w t (fun n cs => cs = [.int k n]) (fun n => (Lit.int k n).wf = true) := by
  intro H enc spare held fuel cs d p h _
  cases fuel with
  | zero => simp [DataW.trod] at h
  | succ fuel =>
    match cs with
    | [] => simp [DataW.trod, ht] at h
    | c :: c1 :: r => simp [DataW.trod, ht] at h
    | [c] =>
      cases c <;> simp [DataW.trod, ht] at h
      rename_i k' n
      obtain ⟨⟨rfl, hw⟩, _⟩ := h
      exact ⟨n, rfl, hw⟩
theorem opn_string (ht : P.underlying t = some .string) : Opn P w t (fun s cs => cs = [.string s]) (fun s => s.size ≤ 140737488351232) := by
  intro H enc spare held fuel cs d p h hw
  cases fuel with
  | zero => simp [DataW.trod] at h
  | succ fuel =>
    match cs with
    | [] => simp [DataW.trod, ht] at h
    | c :: c1 :: r => simp [DataW.trod, ht] at h
    | [c] =>
      cases c <;> simp [DataW.trod, ht] at h
      rename_i s
      obtain ⟨_, rfl, _⟩ := h
      refine ⟨s, rfl, ?_⟩
      have := hw s.data.toList.length (by simp [DataW.weights])
      rw [Array.length_toList] at this
      exact this
theorem opn_bool (ht : P.underlying t = some .bool) : Opn P w t (fun b cs => cs = [.bool b]) (fun _ => True) := by
  intro H enc spare held fuel cs d p h _
  cases fuel with
  | zero => simp [DataW.trod] at h
  | succ fuel =>
    match cs with
    | [.bool b] => exact ⟨b, rfl, trivial⟩
    | [] => simp [DataW.trod, ht] at h
    | c :: c1 :: r => simp [DataW.trod, ht] at h
    | [c] => cases c <;> simp [DataW.trod, ht] at h; exact ⟨_, rfl, trivial⟩
theorem mapM_get {α β : Type} {f : α → Option β} : ∀ {l : List α} {r : List β}, l.mapM f = some r → ∀ (i : Nat) (a : α), l[i]? = some a → ∃ b, r[i]? = some b ∧ f a = some b :=
  fun h i a ha => Lib.mapM_at h i a ha
theorem weights_all {H : Type} {e : TypeId} : ∀ {ds : List (DataW H)} {d : DataW H}, d ∈ ds → ∀ n ∈ d.weights P e, n ∈ DataW.weightsAll P e ds
  | x :: r, d, hd, n, hn => by
    simp only [DataW.weightsAll, List.mem_append]
    rcases List.mem_cons.1 hd with rfl | h
    · exact .inl hn
    · exact .inr (weights_all h n hn)
theorem weights_each {H : Type} : ∀ {ts : List TypeId} {ds : List (DataW H)} {j : Nat} {t : TypeId} {d : DataW H}, ts[j]? = some t → ds[j]? = some d → ∀ n ∈ d.weights P t, n ∈ DataW.weightsEach P ts ds
  | [], _, j, t, d, ht, _, n, hn => by simp at ht
  | _ :: _, [], j, t, d, _, hd, n, hn => by simp at hd
  | t0 :: ts, d0 :: ds, 0, t, d, ht, hd, n, hn => by
    simp only [List.getElem?_cons_zero, Option.some.injEq] at ht hd
    subst ht hd
    simp only [DataW.weightsEach, List.mem_append]
    exact .inl hn
  | t0 :: ts, d0 :: ds, j + 1, t, d, ht, hd, n, hn => by
    simp only [List.getElem?_cons_succ] at ht hd
    simp only [DataW.weightsEach, List.mem_append]
    exact .inr (weights_each ht hd n hn)
/-- A list of values out of one at each place. -/
theorem choose_list {α : Type} (n : Nat) (Q : Nat → α → Prop) (h : ∀ i, i < n → ∃ x, Q i x) : ∃ xs : List α, xs.length = n ∧ ∀ i x, xs[i]? = some x → Q i x := by
  induction n with
  | zero => exact ⟨[], rfl, fun i x hx => by simp at hx⟩
  | succ n ih =>
    obtain ⟨xs, hl, hq⟩ := ih (fun i hi => h i (by omega))
    obtain ⟨x, hx⟩ := h n (by omega)
    refine ⟨xs ++ [x], by simp [hl], fun i y hy => ?_⟩
    by_cases c : i < n
    · rw [List.getElem?_append_left (by omega)] at hy
      exact hq i y hy
    · have hi : i = n := by
        have := (List.getElem?_eq_some_iff.1 hy).1
        simp [hl] at this; omega
      subst hi
      rw [List.getElem?_append_right (by omega), hl] at hy
      simp at hy
      subst hy
      exact hx
theorem cells_at {a : Addr} {n : Nat} {cs : List Value} (h : w.cells? 0 a n = some cs) : cs.length = n ∧ ∀ i u, cs[i]? = some u → w.cell? (a.add i) = some u := by
  unfold World.cells? at h
  rw [if_pos (Nat.zero_le _)] at h
  have hl : cs.length = n := by have := Lib.mapM_length h; simpa using this
  refine ⟨hl, fun i u hu => ?_⟩
  have hi : i < n := by have := (List.getElem?_eq_some_iff.1 hu).1; omega
  obtain ⟨b, hb, hc⟩ := mapM_get h i i (by simp [hi])
  rw [hu] at hb
  obtain rfl := Option.some.inj hb
  exact hc
theorem opn_slice {α : Type} {d : Kd α} {Wf : α → Prop} (ht : P.underlying t = some (.slice e)) (hc : P.cellsOf e = d.sz) (he : Opn P w e (d.K w) Wf) :
    Opn P w t ((Kd.slice e d).K w) (fun xs => xs.length * P.bytesOf e ≤ 140737488351232 ∧ ∀ x ∈ xs, Wf x) := by
  intro H enc spare held fuel cs dd p h hw
  cases fuel with
  | zero => simp [DataW.trod] at h
  | succ fuel =>
    match cs with
    | [] => simp [DataW.trod, ht] at h
    | c :: c1 :: r => simp [DataW.trod, ht] at h
    | [c] =>
      cases c <;> try (simp [DataW.trod, ht] at h; done)
      rename_i A len cap
      cases A with
      | none =>
        have hz : len = 0 ∧ cap = 0 := by
          cases len <;> cases cap <;> simp [DataW.trod, ht] at h <;> exact ⟨rfl, rfl⟩
        obtain ⟨rfl, rfl⟩ := hz
        exact ⟨[], ⟨none, 0, rfl, Nat.le_refl _, rfl, by simp, fun h => absurd h (Nat.lt_irrefl 0)⟩, by simp, by simp⟩
      | some a =>
        simp only [DataW.trod, ht] at h
        split at h
        · rename_i hb
          obtain ⟨elems, hel, h2⟩ := Option.bind_eq_some_iff.1 h
          obtain ⟨rest, hrest, h3⟩ := Option.map_eq_some_iff.1 h2
          obtain ⟨rfl, _⟩ := Prod.mk.inj h3
          have hll : elems.length = len := by have := Lib.mapM_length hel; simpa using this
          have hone : ∀ i, i < len → ∃ x, ∃ c : List Value, (c.length = d.sz ∧ d.K w x c ∧ ∀ j u, c[j]? = some u → w.cell? (a.add (i * d.sz + j)) = some u) ∧ Wf x := by
            intro i hi
            obtain ⟨y, hy, hf⟩ := mapM_get hel i i (by simp [hi])
            obtain ⟨c, hcc, htr⟩ := Option.bind_eq_some_iff.1 hf
            obtain ⟨hl, hcell⟩ := cells_at hcc
            have hm : y.1 ∈ elems.map (·.1) := List.mem_map.2 ⟨y, List.mem_of_getElem? hy, rfl⟩
            have wslice : ∀ n ∈ y.1.weights P e, n ∈ DataW.weights P t (.slice (elems.map (·.1)) (rest.map (·.1))) := by
              intro n hn
              have := weights_all (P := P) (e := e) hm n hn
              simp only [DataW.weights, ht]
              exact List.mem_cons_of_mem _ (List.mem_append_left _ this)
            obtain ⟨x, hx, hwx⟩ := he H enc spare held fuel c y.1 y.2 htr (fun n hn => hw n (wslice n hn))
            refine ⟨x, c, ⟨by rw [hl, hc], hx, fun j u hu => ?_⟩, hwx⟩
            have := hcell j u hu
            rw [hc] at this
            have e1 : (a.add (i * d.sz)).add j = a.add (i * d.sz + j) := by
              simp only [Addr.add]
              split <;> split <;> split <;> simp_all <;> omega
            rw [e1] at this
            exact this
          obtain ⟨xs, hxl, hq⟩ := choose_list len _ hone
          subst hxl
          refine ⟨xs, ⟨some a, cap, rfl, hb.2.1, rfl, Nat.le_trans hb.2.1 hb.2.2, fun _ => ⟨a, rfl, fun j x hj => ?_⟩⟩, ?_, fun x hx => ?_⟩
          · obtain ⟨c, h1, _⟩ := hq j x hj
            exact ⟨c, h1⟩
          · have := hw ((elems.length + rest.length) * P.bytesOf e) (by
              simp only [DataW.weights, ht]
              rw [List.length_map, List.length_map]
              exact List.mem_cons_self)
            exact Nat.le_trans (Nat.mul_le_mul_right _ (by omega)) this
          · obtain ⟨j, hj, he2⟩ := List.mem_iff_getElem.1 hx
            obtain ⟨c, _, h2⟩ := hq j x (by rw [← he2]; exact List.getElem?_eq_getElem hj)
            exact h2
        · cases h
/-- A struct's cells, field by field. -/
theorem trod_fields {fs : Array Field} {H : Type} {enc : TypeId × Value → H} {spare : Nat → Bool} {held : Bool} {fuel : Nat} {cs : List Value} {d : DataW H} {p : List MemPlace}
    (ht : P.underlying t = some (.struct fs)) (h : DataW.trod enc P w 0 spare held fuel t cs = some (d, p)) (hw : ∀ n ∈ d.weights P t, n ≤ 140737488351232) :
    cs.length = P.cellsOf t ∧ ∀ (j : Nat) (f : Field), fs[j]? = some f → ∃ fuel' d' p', DataW.trod enc P w 0 spare held fuel' f.type ((cs.drop f.offset).take (P.cellsOf f.type)) = some (d', p') ∧ ∀ n ∈ d'.weights P f.type, n ≤ 140737488351232 := by
  cases fuel with
  | zero => simp [DataW.trod] at h
  | succ fuel =>
    have e : DataW.trod enc P w 0 spare held (fuel + 1) t cs = if cs.length = P.cellsOf t then (fs.toList.mapM fun f => DataW.trod enc P w 0 spare held fuel f.type ((cs.drop f.offset).take (P.cellsOf f.type))).map fun xs => (.agg (xs.map (·.1)), xs.flatMap (·.2)) else none := by
      simp only [DataW.trod, ht]
    rw [e] at h
    split at h
    · rename_i hl
      refine ⟨hl, fun j f hj => ?_⟩
      obtain ⟨xs, hx, h2⟩ := Option.map_eq_some_iff.1 h
      obtain ⟨rfl, _⟩ := Prod.mk.inj h2
      have hj' : fs.toList[j]? = some f := by simpa using hj
      obtain ⟨y, hy, hf⟩ := mapM_get hx j f hj'
      refine ⟨fuel, y.1, y.2, hf, fun n hn => hw n ?_⟩
      simp only [DataW.weights, ht]
      exact weights_each (j := j) (t := f.type) (d := y.1) (by simp [hj]) (by simp [hy]) n hn
    · cases h
end
end Go.Proofs.YticmmpiffekbiaaDoor.Px
