/- The engine: small code, what it comes to, and that a program's calls come to it; part 2. No condition. -/
import Derived.Test.YtmhdapjmndfkgaaGreatDoorEng1
import Derived.Laws.MakeOwn
import Derived.Laws.Tables
import Derived.Laws.StructEq
import Derived.Lib.Builder
import Derived.Laws.Externs
set_option linter.unusedVariables false
set_option linter.unusedSimpArgs false
namespace Go.Proofs.YtmhdapjmndfkgaaGreatDoor.Eng
open Go Go.RowKit
section
variable {P : Program} {G : Nat → AV} {w0 w w' : World} {S0 : Sb} {T : List AV} {g : Key → Option Ob} {μ ν : Key → Option (Nat × Nat)} {a : Act} {o : Oper} {r : R} {call : Call} {g0 : Key → Option Ob} {d j : Nat}
theorem freshO_mem : ∀ {new : List (Key × Ob)} {o : List (Key × Ob)}, freshO o new = true → ∀ k x, (k, x) ∈ new → getO o k = none ∧ getO new k = some x
  | [], _, _, _, _, h => by cases h
  | (k', x') :: l, o, hf, k, x, h => by
    simp only [freshO, Bool.and_eq_true, Option.isNone_iff_eq_none] at hf
    have ap : ∀ (o : List (Key × Ob)) (k : Key), getO (o ++ [(k', x')]) k = none → getO o k = none ∧ k' ≠ k := by
      intro o
      induction o with
      | nil => intro k h; simp only [List.nil_append, getO] at h; split at h <;> simp_all [getO]
      | cons p o ih =>
        intro k h
        simp only [List.cons_append, getO] at h ⊢
        split at h
        · cases h
        · rename_i hne; rw [if_neg hne]; exact ih k h
    rcases List.mem_cons.1 h with h | h
    · cases h
      exact ⟨hf.1, by simp [getO]⟩
    · obtain ⟨h1, h2⟩ := freshO_mem hf.2 k x h
      obtain ⟨h3, h4⟩ := ap o k h1
      exact ⟨h3, by simp [getO, h4, h2]⟩
theorem getO_mem : ∀ {l : List (Key × Ob)} {k : Key} {x : Ob}, getO l k = some x → (k, x) ∈ l
  | [], _, _, h => by cases h
  | (k', x') :: l, k, x, h => by
    simp only [getO] at h
    split at h
    · rename_i he; cases h; subst he; exact List.mem_cons_self
    · exact List.mem_cons_of_mem _ (getO_mem h)
def Fresh (g : Key → Option Ob) (new : List (Key × Ob)) : Prop := ∀ k x, (k, x) ∈ new → g k = none ∧ getO new k = some x
theorem gx_fresh {new : List (Key × Ob)} {ks : List Key} (hks : ∀ k ∈ ks, (g k).isSome) {k : Key} (hk : g k = none) : gx g new ks k = getO new k := by
  unfold gx
  have : ks.contains k = false := by
    rw [Bool.eq_false_iff]
    intro h
    have := hks k (List.contains_iff_mem.1 h)
    rw [hk] at this; cases this
  rw [if_neg (by rw [this]; simp), hk]; rfl
theorem x_nil {sz : Sz} (ho : o.op = .assign (.const (.slice none 0 0))) (hd : denX call G T g0 d j (.nil sz) = some r) (hf : Fresh g r.new) : XRes P (Φx w0 S0 g μ w r) o a w := by
  simp only [denX, Option.some.injEq] at hd
  subst hd
  have hk := hf _ _ (List.mem_cons_self)
  refine .inl ⟨.slice none 0 0, w, by simp [execOp, ho, Act.eval], fun _ => none, .refl _ _, fun k b base h => (by cases h), fun k k' b i i' h => (by cases h), fun k x h1 h2 => ?_, ?_, by simp⟩
  · rw [gx_fresh (by simp) h1] at h2
    simp only [getO] at h2
    split at h2
    · cases h2; exact ⟨by simp, .inl ⟨by simp [mkC, μx, h1], rfl⟩⟩
    · cases h2
  · exact ⟨0, sz, false, false, (gx_fresh (ks := []) (by simp) hk.1).trans hk.2, Nat.le_refl _, by simp, by simp, .inl ⟨rfl, rfl, fun _ => by simp [mkC, μx, hk.1]⟩⟩
theorem LRep1.oneCell {C : Ctx} {c : AV} {x : Value} (h : LRep1 C c x) (hs : solid c = true) : x.oneCell = true := by
  cases c with
  | undef => cases hs
  | nilsl => cases h; rfl
  | bnil T => cases h; rfl
  | asl k es =>
    obtain ⟨_, _, _, _, _, _, _, _, h | ⟨_, _, _, _, h, _⟩⟩ := h
    · rw [h.1]; rfl
    · rw [h]; rfl
  | ptr k o => obtain ⟨_, _, _, _, _, h⟩ := h; rw [h]; rfl
  | eptr k i o cs => obtain ⟨_, _, _, _, _, _, _, _, h, _⟩ := h; rw [h]; rfl
  | sub k l n => obtain ⟨_, _, _, _, _, _, _, h, _⟩ := h; rw [h]; rfl
  | v y => exact FRep.oneCell h rfl
  | fsl es => exact FRep.oneCell h rfl
  | fptr cs => exact FRep.oneCell h rfl
  | fn f cs => exact FRep.oneCell h rfl
  | iface t y => exact FRep.oneCell h rfl
  | _ => exact h.elim
theorem cells_rep {C : Ctx} {c : AV} {y : Value} (hs : solid c = true) (h : LRep C c y) : y.cells.size = (cellsOf c).length ∧
    ∀ (j : Nat) (c' : AV) (x : Value), (cellsOf c)[j]? = some c' → y.cells[j]? = some x → LRep1 C c' x ∧ x.oneCell = true := by
  cases c with
  | agg cs =>
    obtain ⟨vs, rfl, h2, h3⟩ := h
    exact ⟨h2, h3⟩
  | tup => cases hs
  | own => cases hs
  | undef => cases hs
  | bnil T => cases hs
  | _ =>
    simp only [LRep, LRepA] at h
    have h1 := h.oneCell rfl
    have hc : y.cells = #[y] := by cases y <;> first | rfl | (simp [Value.oneCell] at h1)
    refine ⟨by rw [hc]; rfl, fun j c' x hj hx => ?_⟩
    rw [hc] at hx
    match j with
    | 0 => simp [cellsOf] at hj hx; subst hj hx; exact ⟨h, h1⟩
    | j + 1 => simp [cellsOf] at hj
theorem adopt_get (d : Nat) : ∀ (cs : List AV) (sz : List Sz) (j : Nat), (adopt d j cs sz).1.length = cs.length ∧
    (∀ k x, (k, x) ∈ (adopt d j cs sz).2 → (∃ s, x = .tail 0 s false false) ∧ k.1 = d ∧ j ≤ k.2) ∧
    ∀ (i : Nat) (c : AV), (adopt d j cs sz).1[i]? = some c → cs[i]? = some c ∨ (cs[i]? = some .nilsl ∧ ∃ k s, c = .asl k [] ∧ (k, .tail 0 s false false) ∈ (adopt d j cs sz).2)
  | [], sz, j => by cases sz <;> simp [adopt]
  | c :: cs, [], j => by cases c <;> simp [adopt]
  | c :: cs, s :: sz, j => by
    obtain ⟨h1, h2, h3⟩ := adopt_get d cs sz (j + 1)
    have gen : ∀ c, (c :: (adopt d (j + 1) cs sz).1).length = (c :: cs).length ∧ (∀ k x, (k, x) ∈ (adopt d (j + 1) cs sz).2 → (∃ s, x = .tail 0 s false false) ∧ k.1 = d ∧ j ≤ k.2) ∧
        ∀ (i : Nat) (c' : AV), (c :: (adopt d (j + 1) cs sz).1)[i]? = some c' → (c :: cs)[i]? = some c' ∨ ((c :: cs)[i]? = some .nilsl ∧ ∃ k s, c' = .asl k [] ∧ (k, .tail 0 s false false) ∈ (adopt d (j + 1) cs sz).2) := by
      intro c
      refine ⟨by simp [h1], fun k x hk => ⟨(h2 k x hk).1, (h2 k x hk).2.1, by have := (h2 k x hk).2.2; omega⟩, fun i c' hi => ?_⟩
      cases i with
      | zero => exact .inl hi
      | succ i => exact h3 i c' hi
    cases c with
    | nilsl =>
      simp only [adopt]
      refine ⟨by simp [h1], fun k x hk => ?_, fun i c' hi => ?_⟩
      · rcases List.mem_cons.1 hk with hk | hk
        · cases hk; exact ⟨⟨s, rfl⟩, rfl, Nat.le_refl _⟩
        · exact ⟨(h2 k x hk).1, (h2 k x hk).2.1, by have := (h2 k x hk).2.2; omega⟩
      · cases i with
        | zero => simp at hi; subst hi; exact .inr ⟨rfl, _, s, rfl, List.mem_cons_self⟩
        | succ i =>
          rcases h3 i c' hi with h | ⟨h, k, s', h5, h6⟩
          · exact .inl h
          · exact .inr ⟨h, k, s', h5, List.mem_cons_of_mem _ h6⟩
    | _ => exact gen _
theorem run_newVar {t : TypeId} {v : Value} : (newVar t v).run P w = .ok ⟨w.heap.size, 0, none⟩ (w.alloc (.cells v.cells t)) := by
  simp [newVar, newRow, newObj, Sem.run]
theorem heap_alloc_new (ob : Go.Obj) : (w.alloc ob).heap[w.heap.size]? = some ob := by
  show (w.heap.push ob)[w.heap.size]? = _
  simp
theorem adopt_tag {cs : List AV} {sz : List Sz} {t : TypeId} (h : tagOk cs t) : tagOk (adopt d j cs sz).1 t := by
  intro T' h'
  cases cs with
  | nil => cases sz <;> simp [adopt] at h'
  | cons c l =>
    cases sz with
    | nil => simp only [adopt] at h'; exact h T' h'
    | cons s sz =>
      cases c with
      | nilsl => simp [adopt] at h'
      | _ => simp only [adopt] at h'; exact h T' h'
theorem solid_tag {x : AV} {t : TypeId} (h : solid x = true) : tagOk (cellsOf x) t := by
  intro T' h'
  cases x with
  | agg cs =>
    cases cs with
    | nil => cases h'
    | cons c l =>
      simp only [cellsOf, List.head?_cons, Option.some.injEq] at h'
      subst h'
      cases h
  | bnil T => cases h
  | _ => simp [cellsOf] at h'
theorem newVar_fx (hI : Inv G w0 S0 T g μ a w) {cs : List AV} {sz : List Sz} {vs : Array Value} {t : TypeId} (hs : vs.size = cs.length)
    (hc : ∀ (j : Nat) (c' : AV) (x : Value), cs[j]? = some c' → vs[j]? = some x → LRep1 (mkC w0 S0 w g μ) c' x ∧ x.oneCell = true)
    (hf : Fresh g (((d, j), Ob.var (adopt d (j + 1) cs sz).1 false) :: (adopt d (j + 1) cs sz).2)) (htag : tagOk cs t) :
    Φx w0 S0 g μ w { x := .ptr (d, j) 0, new := ((d, j), Ob.var (adopt d (j + 1) cs sz).1 false) :: (adopt d (j + 1) cs sz).2 } (.pointer (some ⟨w.heap.size, 0, none⟩)) (w.alloc (.cells vs t)) := by
  obtain ⟨h1, h2, h3⟩ := adopt_get d cs sz (j + 1)
  have hk := hf _ _ (List.mem_cons_self)
  have hb : Below w.heap.size w (w.alloc (.cells vs t)) := (Below.refl _ _).alloc (Nat.le_refl _) _
  let ν : Key → Option (Nat × Nat) := fun k => if k = (d, j) then some (w.heap.size, 0) else none
  have hν : ∀ k b base, ν k = some (b, base) → k = (d, j) ∧ b = w.heap.size ∧ base = 0 := by
    intro k b base h
    simp only [ν] at h
    split at h
    · cases h; exact ⟨by assumption, rfl, rfl⟩
    · cases h
  have hnew : ∀ k b base, ν k = some (b, base) → (getO (((d, j), Ob.var (adopt d (j + 1) cs sz).1 false) :: (adopt d (j + 1) cs sz).2) k).isSome ∧ w.heap.size ≤ b ∧ b < (w.alloc (.cells vs t)).heap.size := by
    intro k b base h
    obtain ⟨rfl, rfl, rfl⟩ := hν k b base h
    exact ⟨by rw [hk.2]; rfl, Nat.le_refl _, by simp⟩
  have hinj : ∀ k k' b i i', ν k = some (b, i) → ν k' = some (b, i') → k = k' := fun k k' b i i' h h' => by rw [(hν _ _ _ h).1, (hν _ _ _ h').1]
  have E := hI.gxE [] hb hnew
  have hμ0 : μx g μ ν (d, j) = some (w.heap.size, 0) := by simp [μx, hk.1, ν]
  have hg0 : gx g (((d, j), Ob.var (adopt d (j + 1) cs sz).1 false) :: (adopt d (j + 1) cs sz).2) [] (d, j) = some (.var (adopt d (j + 1) cs sz).1 false) := by rw [gx_fresh (by simp) hk.1]; exact hk.2
  refine ⟨ν, hb, hnew, hinj, fun k x hg hx => ?_, ?_, by simp⟩
  · rw [gx_fresh (by simp) hg] at hx
    have hm := getO_mem hx
    rcases List.mem_cons.1 hm with hm | hm
    · cases hm
      refine ⟨w.heap.size, vs, t, hμ0, heap_alloc_new _, by rw [h1]; exact hs, fun i c x hi hx => ?_, adopt_tag htag⟩
      rcases h3 i c hi with h | ⟨h, k, s, rfl, h5⟩
      · exact ⟨E.lrep1 (hc i c x h hx).1, (hc i c x h hx).2⟩
      · have hfk := hf k _ (List.mem_cons_of_mem _ h5)
        obtain ⟨h6, h7⟩ := hc i _ x h hx
        have h6 : x = .slice none 0 0 := h6
        subst h6
        refine ⟨⟨0, s, false, false, (gx_fresh (ks := []) (by simp) hfk.1).trans hfk.2, Nat.le_refl _, by simp, by simp, .inl ⟨rfl, rfl, fun _ => ?_⟩⟩, h7⟩
        have := (h2 _ _ h5).2.2
        show μx g μ ν k = none
        simp only [μx, hfk.1, Option.isSome_none, Bool.false_eq_true, if_false, ν]
        rw [if_neg]
        intro he; rw [he] at this; simp at this; omega
    · obtain ⟨⟨s, rfl⟩, hd1, hj1⟩ := h2 _ _ hm
      refine ⟨by simp, .inl ⟨?_, rfl⟩⟩
      show μx g μ ν k = none
      simp only [μx, hg, Option.isSome_none, Bool.false_eq_true, if_false, ν]
      rw [if_neg]
      intro he; rw [he] at hj1; simp at hj1; omega
  · exact ⟨w.heap.size, _, _, hg0, hμ0, rfl⟩
theorem ofCell_tag (x : Value) (T : TypeId) : ofCell x ≠ .bnil T := by
  intro h
  unfold ofCell at h
  split at h <;> first | (cases h; done) | (split at h <;> cases h)
theorem tagB_len {t : TypeId} (l : List AV) : (tagB t l).length = l.length := by
  unfold tagB
  split <;> rfl
theorem tagB_tag {t : TypeId} {l : List AV} (h : tagOk l t) : tagOk (tagB t l) t := by
  intro T' h'
  unfold tagB at h'
  split at h'
  · simp only [List.head?_cons, Option.some.injEq, AV.bnil.injEq] at h'
    exact h'.symm
  · exact h T' h'
theorem tagB_rep {t : TypeId} {C : Ctx} {l : List AV} {vs : Array Value} (h : ∀ (i : Nat) (c : AV) (x : Value), l[i]? = some c → vs[i]? = some x → LRep1 C c x ∧ x.oneCell = true) (i : Nat) (c : AV) (x : Value) (hi : (tagB t l)[i]? = some c) (hx : vs[i]? = some x) : LRep1 C c x ∧ x.oneCell = true := by
  unfold tagB at hi
  split at hi
  · cases i with
    | zero =>
      simp only [List.getElem?_cons_zero, Option.some.injEq] at hi
      subst hi
      obtain ⟨h1, h2⟩ := h 0 _ x rfl hx
      have h1 : FRep C.w C.S (.v (.pointer none)) x := h1
      cases h1
      exact ⟨rfl, h2⟩
    | succ i => exact h (i + 1) c x hi hx
  · exact h i c x hi hx
theorem x_box (hI : Inv G w0 S0 T g μ a w) {t : TypeId} {n : Nat} {sz : List Sz} {x : Operand} (ho : o.op = .box t x) (hd : denX call G T g0 d j (.box n sz (cX x)) = some r) (hf : Fresh g r.new) : XRes P (Φx w0 S0 g μ w r) o a w := by
  simp only [denX] at hd
  split at hd
  · rename_i h
    cases hd
    obtain ⟨h1, h2⟩ := cells_rep h.2 (hI.ev x)
    exact .inl ⟨_, _, by simp [execOp, ho, Instr.box, run_newVar], newVar_fx (t := t) hI h1 h2 hf (solid_tag h.2)⟩
  · cases hd
theorem x_alloc (hI : Inv G w0 S0 T g μ a w) {t : TypeId} {b : Bool} {z : List AV} {sz : List Sz} (hz : zeroT P t = some z) (ho : o.op = .alloc t) (hd : denX call G T g0 d j (.alloc (bif b then tagB t z else z) sz) = some r) (hf : Fresh g r.new) : XRes P (Φx w0 S0 g μ w r) o a w := by
  simp only [denX] at hd
  cases hd
  unfold zeroT at hz
  simp only [Option.bind_eq_some_iff] at hz
  obtain ⟨v, hv, hz⟩ := hz
  split at hz
  · rename_i hall
    cases hz
    have hv' : (zeroValue t).run P w = .ok v w := run_zero (by simpa [Option.bind_eq_some_iff] using hv)
    have hz0 : ∀ (i : Nat) (c : AV) (x : Value), (v.cells.toList.map ofCell)[i]? = some c → v.cells[i]? = some x → LRep1 (mkC w0 S0 w g μ) c x ∧ x.oneCell = true := by
      intro i c x hi hx
      simp only [List.getElem?_map, Array.getElem?_toList, hx, Option.map_some, Option.some.injEq] at hi
      subst hi
      exact ⟨ofCell_rep _ x, List.all_eq_true.1 hall x (List.mem_of_getElem? (by rw [Array.getElem?_toList]; exact hx))⟩
    have ht0 : tagOk (v.cells.toList.map ofCell) t := by
      intro T' h'
      rw [List.head?_map, Option.map_eq_some_iff] at h'
      obtain ⟨x, _, h'⟩ := h'
      exact absurd h' (ofCell_tag x T')
    refine .inl ⟨_, _, by simp [execOp, ho, Instr.alloc, hv', run_newVar], newVar_fx (t := t) (vs := v.cells) hI ?_ ?_ hf ?_⟩
    · cases b
      · simp
      · simp only [cond_true, tagB_len]; simp
    · cases b
      · exact hz0
      · simp only [cond_true]
        intro i c x hi hx
        exact tagB_rep hz0 i c x hi hx
    · cases b
      · exact ht0
      · exact tagB_tag ht0
  · cases hz
end
end Go.Proofs.YtmhdapjmndfkgaaGreatDoor.Eng
namespace Go.Proofs.YtmhdapjmndfkgaaGreatDoor.Eng
open Go Go.RowKit
section
variable {P : Program} {G : Nat → AV} {w0 w w' : World} {S0 : Sb} {T : List AV} {g : Key → Option Ob} {μ ν : Key → Option (Nat × Nat)} {a : Act} {o : Oper} {r : R} {call : Call} {g0 : Key → Option Ob} {d j : Nat}
theorem foldl_set (off : Nat) : ∀ (ys : List Value) (k : Nat) (xs : Array Value), ((ys.zipIdx k).foldl (fun cs (p : Value × Nat) => cs.setIfInBounds (off + p.2) p.1) xs).size = xs.size ∧
    ∀ i, ((ys.zipIdx k).foldl (fun cs (p : Value × Nat) => cs.setIfInBounds (off + p.2) p.1) xs)[i]? = if off + k ≤ i ∧ i < off + k + ys.length ∧ i < xs.size then ys[i - (off + k)]? else xs[i]?
  | [], k, xs => ⟨rfl, fun i => by rw [if_neg (by simp; omega)]; rfl⟩
  | y :: ys, k, xs => by
    obtain ⟨h1, h2⟩ := foldl_set off ys (k + 1) (xs.setIfInBounds (off + k) y)
    refine ⟨by simpa using h1, fun i => ?_⟩
    have := h2 i
    simp only [List.zipIdx_cons, List.foldl_cons]
    rw [this]
    simp only [Array.size_setIfInBounds, List.length_cons]
    by_cases h : off + k = i
    · subst h
      rw [if_neg (by omega)]
      by_cases hl : off + k < xs.size
      · rw [if_pos (by omega), Array.getElem?_setIfInBounds_self_of_lt hl]; simp
      · rw [if_neg (by omega)]
        rw [Array.getElem?_eq_none (by simp; omega), Array.getElem?_eq_none (by omega)]
    · by_cases h3 : off + (k + 1) ≤ i ∧ i < off + (k + 1) + ys.length ∧ i < xs.size
      · rw [if_pos h3, if_pos (by omega)]
        have : i - (off + k) = (i - (off + (k + 1))) + 1 := by omega
        rw [this, List.getElem?_cons_succ]
      · rw [if_neg h3, if_neg (by omega), Array.getElem?_setIfInBounds_ne h]
theorem splice_get {cs : List AV} {off : Nat} {xs : List AV} (h : off + xs.length ≤ cs.length) : (splice cs off xs).length = cs.length ∧
    ∀ i, (splice cs off xs)[i]? = if off ≤ i ∧ i < off + xs.length then xs[i - off]? else cs[i]? := by
  unfold splice
  refine ⟨by simp; omega, fun i => ?_⟩
  have ht : (cs.take off).length = off := by simp; omega
  by_cases h1 : i < off
  · rw [if_neg (by omega), List.append_assoc, List.getElem?_append_left (by omega), List.getElem?_take_of_lt h1]
  · by_cases h2 : i < off + xs.length
    · rw [if_pos ⟨by omega, h2⟩, List.append_assoc, List.getElem?_append_right (by omega), ht, List.getElem?_append_left (by omega)]
    · rw [if_neg (by omega), List.getElem?_append_right (by simp; omega), List.getElem?_drop]
      congr 1
      simp; omega
def CRep (C : Ctx) (cs : List AV) (xs : Array Value) : Prop := xs.size = cs.length ∧ ∀ (j : Nat) (c : AV) (x : Value), cs[j]? = some c → xs[j]? = some x → LRep1 C c x ∧ x.oneCell = true
theorem CRep.splice {C : Ctx} {cs ys : List AV} {xs zs : Array Value} {off : Nat} (h : CRep C cs xs) (h' : CRep C ys zs) (hle : off + ys.length ≤ cs.length) :
    CRep C (splice cs off ys) ((zs.toList.zipIdx).foldl (fun cs (p : Value × Nat) => cs.setIfInBounds (off + p.2) p.1) xs) := by
  obtain ⟨h1, h2⟩ := splice_get hle
  obtain ⟨h3, h4⟩ := foldl_set off zs.toList 0 xs
  refine ⟨by rw [h3, h1, h.1], fun j c x hj hx => ?_⟩
  rw [h2] at hj
  rw [h4] at hx
  have hs : zs.toList.length = ys.length := by rw [Array.length_toList]; exact h'.1
  by_cases hc : off ≤ j ∧ j < off + ys.length
  · rw [if_pos hc] at hj
    rw [if_pos (by rw [h.1]; omega), Array.getElem?_toList] at hx
    exact h'.2 (j - off) c x hj (by simpa using hx)
  · rw [if_neg hc] at hj
    rw [if_neg (by omega)] at hx
    exact h.2 j c x hj hx
theorem fill_run {C : Ctx} (place : Nat → Option (Nat × Nat)) : ∀ (ps : List (Nat × Operand)) (qs : List (Nat × Nat × CX)) (cs cs' : List AV) (xs : Array Value), cParts place ps = some qs →
    (∀ x : Operand, LRep C (ev T G (cX x)) (a.eval x)) → fill cs (qs.map fun p => (p.1, p.2.1, ev T G p.2.2)) = some cs' → CRep C cs xs →
    ∃ xs', Instr.fill place xs (ps.map fun p => (p.1, a.eval p.2)) = some xs' ∧ CRep C cs' xs'
  | [], qs, cs, cs', xs, hq, _, hf, hc => by
    simp [cParts] at hq; subst hq
    simp [fill] at hf; subst hf
    exact ⟨xs, rfl, hc⟩
  | (i, x) :: ps, qs, cs, cs', xs, hq, he, hf, hc => by
    simp only [cParts, Option.bind_eq_some_iff, Option.some.injEq] at hq
    obtain ⟨p, hp, m, hm, rfl⟩ := hq
    simp only [List.map_cons, fill] at hf
    split at hf
    · rename_i hl
      obtain ⟨h1, h2⟩ := cells_rep hl.2.2 (he x)
      have hcr : CRep C (cellsOf (ev T G (cX x))) (a.eval x).cells := ⟨h1, h2⟩
      obtain ⟨xs', h3, h4⟩ := fill_run place ps m _ cs' _ hm he hf (hc.splice hcr (by rw [hl.1]; exact hl.2.1))
      refine ⟨xs', ?_, h4⟩
      simp only [List.map_cons, Instr.fill, hp]
      have hl1 : (cellsOf (ev T G (cX x))).length = p.2 := hl.1
      have hl2 : p.1 + p.2 ≤ cs.length := hl.2.1
      have h1' : (a.eval x).cells.size = (cellsOf (ev T G (cX x))).length := h1
      rw [if_neg]
      · rw [← Array.foldl_toList, Array.toList_zipIdx]; exact h3
      · have := hc.1
        simp only [ne_eq, Bool.or_eq_true, decide_eq_true_eq]
        omega
    · cases hf
theorem zeroT_rep {t : TypeId} {z : List AV} (hz : zeroT P t = some z) (C : Ctx) : ∃ v, (zeroValue t).run P w = .ok v w ∧ CRep C z v.cells := by
  unfold zeroT at hz
  simp only [Option.bind_eq_some_iff] at hz
  obtain ⟨v, hv, hz⟩ := hz
  split at hz
  · rename_i hall
    cases hz
    refine ⟨v, run_zero (by simpa [Option.bind_eq_some_iff] using hv), by simp, fun i c x hi hx => ?_⟩
    simp only [List.getElem?_map, Array.getElem?_toList, hx, Option.map_some, Option.some.injEq] at hi
    subst hi
    exact ⟨ofCell_rep _ x, List.all_eq_true.1 hall x (List.mem_of_getElem? (by rw [Array.getElem?_toList]; exact hx))⟩
  · cases hz
theorem x_build (hI : Inv G w0 S0 T g μ a w) {t : TypeId} {ps : Array (Nat × Operand)} {op : COp} (hc : cBuild P t ps.toList = some op) (ho : o.op = .build t ps) (hd : denX call G T g0 d j op = some r) : XRes P (Φx w0 S0 g μ w r) o a w := by
  unfold cBuild at hc
  simp only [Option.bind_eq_some_iff] at hc
  obtain ⟨z, hz, hc⟩ := hc
  obtain ⟨v, hv, hzr⟩ := zeroT_rep (P := P) (w := w) hz (mkC w0 S0 w g μ)
  split at hc
  · rename_i fs hu
    simp only [Option.bind_eq_some_iff, Option.map_eq_some_iff] at hc
    obtain ⟨pl, hpl, qs, hq, rfl⟩ := hc
    simp only [denX, Option.bind_eq_some_iff, Option.some.injEq] at hd
    obtain ⟨cs, hcs, rfl⟩ := hd
    obtain ⟨xs, hx, hxr⟩ := fill_run (a := a) (fun i => pl[i]?) ps.toList qs z cs v.cells hq hI.ev hcs hzr
    refine .pure hI (y := .agg xs) ?_ ⟨xs, rfl, hxr.1, hxr.2⟩
    have hm := run_places (P := P) w fs.toList pl hpl
    simp [execOp, ho, Instr.build, hv, run_und hu, Array.mapM_eq_mapM_toList, hm, hx]
  · rename_i n e hu
    simp only [Option.bind_eq_some_iff, Option.map_eq_some_iff] at hc
    obtain ⟨s, hs, qs, hq, rfl⟩ := hc
    simp only [denX, Option.bind_eq_some_iff, Option.some.injEq] at hd
    obtain ⟨cs, hcs, rfl⟩ := hd
    obtain ⟨xs, hx, hxr⟩ := fill_run (a := a) (fun i => some (i * s, s)) ps.toList qs z cs v.cells hq hI.ev hcs hzr
    refine .pure hI (y := .agg xs) ?_ ⟨xs, rfl, hxr.1, hxr.2⟩
    simp [execOp, ho, Instr.build, hv, run_und hu, run_sizeOf hs, hx]
  · cases hc
end
end Go.Proofs.YtmhdapjmndfkgaaGreatDoor.Eng
namespace Go.Proofs.YtmhdapjmndfkgaaGreatDoor.Eng
open Go Go.RowKit
section
variable {P : Program} {G : Nat → AV} {w0 w w' : World} {S0 : Sb} {T : List AV} {g : Key → Option Ob} {μ ν : Key → Option (Nat × Nat)} {a : Act} {o : Oper} {r : R} {call : Call} {g0 : Key → Option Ob} {d j : Nat}
def ERep (w : World) (S : Nat → Nat → Prop) (sz : Nat) (es : List (List AV)) (xs : Array Value) : Prop :=
  xs.size = es.length * sz ∧ (∀ (i : Nat) (e : List AV), es[i]? = some e → e.length = sz) ∧
  ∀ (i : Nat) (e : List AV) (j : Nat) (c : AV) (x : Value), es[i]? = some e → e[j]? = some c → xs[i * sz + j]? = some x → FRep w S c x ∧ atom c = true
theorem fcells {S : Nat → Nat → Prop} {c0 c : AV} {y : Value} (hf : frz c0 = some c) (h : FRep w S c y) : y.cells.size = (cellsOf c).length ∧
    ∀ (j : Nat) (c' : AV) (x : Value), (cellsOf c)[j]? = some c' → y.cells[j]? = some x → FRep w S c' x ∧ atom c' = true := by
  have one : atom c = true → cellsOf c = [c] → y.cells.size = (cellsOf c).length ∧ ∀ (j : Nat) (c' : AV) (x : Value), (cellsOf c)[j]? = some c' → y.cells[j]? = some x → FRep w S c' x ∧ atom c' = true := by
    intro ha hc
    have h1 := h.oneCell ha
    have hy : y.cells = #[y] := by cases y <;> first | rfl | (simp [Value.oneCell] at h1)
    rw [hc, hy]
    refine ⟨rfl, fun j c' x hj hx => ?_⟩
    match j with
    | 0 => simp at hj hx; subst hj hx; exact ⟨h, ha⟩
    | j + 1 => simp at hj
  cases h with
  | agg X hn hv hr =>
    refine ⟨hn, fun j c' x hj hx => ?_⟩
    obtain ⟨h1, h2⟩ := hv j c' hj
    have hx' : _ = some x := hx
    rw [Value.cells] at hx'
    rw [h1] at hx'
    cases hx'
    exact ⟨hr j c' hj, h2⟩
  | _ => exact one rfl rfl
theorem mul_idx {i i' j j' sz : Nat} (hj : j < sz) (hj' : j' < sz) (h : i * sz + j = i' * sz + j') : i = i' ∧ j = j' := by
  have h1 : (i * sz + j) / sz = i := by rw [Nat.add_comm, Nat.add_mul_div_right _ _ (by omega), Nat.div_eq_of_lt hj, Nat.zero_add]
  have h2 : (i' * sz + j') / sz = i' := by rw [Nat.add_comm, Nat.add_mul_div_right _ _ (by omega), Nat.div_eq_of_lt hj', Nat.zero_add]
  have : i = i' := by rw [← h1, ← h2, h]
  subst this
  exact ⟨rfl, by omega⟩
theorem idx_lt {i n j sz : Nat} (hi : i < n) (hj : j < sz) : i * sz + j < n * sz := by
  have : (i + 1) * sz ≤ n * sz := Nat.mul_le_mul_right _ hi
  rw [Nat.succ_mul] at this
  omega
theorem ERep.set {S : Nat → Nat → Prop} {sz : Nat} {es : List (List AV)} {xs zs : Array Value} {i : Nat} {ys : List AV} (h : ERep w S sz es xs) (hi : i < es.length) (hl : ys.length = sz) (hz : zs.size = ys.length)
    (hc : ∀ (j : Nat) (c' : AV) (x : Value), ys[j]? = some c' → zs[j]? = some x → FRep w S c' x ∧ atom c' = true) :
    ERep w S sz (es.set i ys) ((zs.toList.zipIdx).foldl (fun cs (p : Value × Nat) => cs.setIfInBounds (i * sz + p.2) p.1) xs) := by
  obtain ⟨h3, h4⟩ := foldl_set (i * sz) zs.toList 0 xs
  refine ⟨by rw [h3, h.1]; simp, fun k e hk => ?_, fun k e j c x hk hj hx => ?_⟩
  · rw [List.getElem?_set] at hk
    split at hk
    · cases hk; exact hl
    · exact h.2.1 k e hk
  · have hej : e.length = sz := by
      rw [List.getElem?_set] at hk
      split at hk
      · cases hk; exact hl
      · exact h.2.1 k e hk
    have hjs : j < sz := by rw [← hej]; exact (List.getElem?_eq_some_iff.1 hj).1
    rw [h4] at hx
    have hbase : i * sz + sz ≤ xs.size := by rw [h.1]; have := Nat.mul_le_mul_right sz hi; rw [Nat.succ_mul] at this; exact this
    rw [List.getElem?_set] at hk
    split at hk
    · rename_i hik
      subst hik
      cases hk
      rw [if_pos (by rw [Array.length_toList]; omega), Array.getElem?_toList] at hx
      exact hc j c x hj (by simpa using hx)
    · rename_i hik
      rw [if_neg] at hx
      · exact h.2.2 k e j c x hk hj hx
      · rw [Array.length_toList]
        intro hh
        obtain ⟨h5, h6, _⟩ := hh
        exact hik (mul_idx (j := k * sz + j - i * sz) (by omega) hjs (by omega)).1
theorem fillE_run {S : Nat → Nat → Prop} {sz : Nat} : ∀ (ps : List (Nat × Operand)) (q : List (Nat × AV) × List Key) (es es' : List (List AV)) (xs : Array Value), fzParts T G (ps.map fun p => (p.1, cX p.2)) = some q →
    (∀ (x : Operand) (y : AV), frz (ev T G (cX x)) = some y → (∀ k ∈ keys (ev T G (cX x)), k ∈ q.2) → FRep w S y (a.eval x)) → fillE sz es q.1 = some es' → ERep w S sz es xs →
    ∃ xs', Instr.fill (fun i => some (i * sz, sz)) xs (ps.map fun p => (p.1, a.eval p.2)) = some xs' ∧ ERep w S sz es' xs'
  | [], q, es, es', xs, hq, _, hf, hc => by
    simp [fzParts] at hq; subst hq
    simp [fillE] at hf; subst hf
    exact ⟨xs, rfl, hc⟩
  | (i, x) :: ps, q, es, es', xs, hq, he, hf, hc => by
    simp only [List.map_cons, fzParts, Option.bind_eq_some_iff, Option.some.injEq] at hq
    obtain ⟨y, hy, m, hm, rfl⟩ := hq
    simp only [fillE] at hf
    split at hf
    · rename_i hl
      have hyr := he x y hy (fun k hk => List.mem_append_left _ hk)
      obtain ⟨h1, h2⟩ := fcells hy hyr
      obtain ⟨xs', h3, h4⟩ := fillE_run ps m _ es' _ hm (fun x y hy hk => he x y hy (fun k hk' => List.mem_append_right _ (hk k hk'))) hf (hc.set hl.2 hl.1 h1 h2)
      refine ⟨xs', ?_, h4⟩
      simp only [List.map_cons, Instr.fill]
      have hbase : i * sz + sz ≤ xs.size := by rw [hc.1]; have := Nat.mul_le_mul_right sz hl.2; rw [Nat.succ_mul] at this; exact this
      rw [if_neg]
      · rw [← Array.foldl_toList, Array.toList_zipIdx]; exact h3
      · have hl1 := hl.1
        simp only [ne_eq, Bool.or_eq_true, decide_eq_true_eq]
        omega
    · cases hf
theorem zeros_rep {S : Nat → Nat → Prop} {n sz : Nat} {z : List AV} {vs : Array Value} (hz : z.length = sz) (hv : vs.size = sz)
    (hc : ∀ (j : Nat) (c' : AV) (x : Value), z[j]? = some c' → vs[j]? = some x → FRep w S c' x ∧ atom c' = true) :
    ERep w S sz (List.replicate n z) ((Array.range (n * sz)).map (vs[· % vs.size]!)) := by
  refine ⟨by simp, fun i e hi => ?_, fun i e j c x hi hj hx => ?_⟩
  · rw [List.getElem?_replicate] at hi
    split at hi
    · cases hi; exact hz
    · cases hi
  · rw [List.getElem?_replicate] at hi
    split at hi
    · rename_i hin
      cases hi
      have hjs : j < sz := by rw [← hz]; exact (List.getElem?_eq_some_iff.1 hj).1
      have hlt := idx_lt hin hjs
      simp [hlt] at hx
      have hmod : (i * sz + j) % vs.size = j := by rw [hv, Nat.add_comm, Nat.add_mul_mod_self_right, Nat.mod_eq_of_lt hjs]
      rw [hmod] at hx
      refine hc j c x hj ?_
      rw [← hx]
      simp [hv, hjs]
    · cases hi
theorem zeroF_rep {S : Nat → Nat → Prop} {t : TypeId} {z : List AV} (hz : zeroF P t = some z) : ∃ v, (zeroValue t).run P w = .ok v w ∧ v.cells.size = z.length ∧
    ∀ (j : Nat) (c' : AV) (x : Value), z[j]? = some c' → v.cells[j]? = some x → FRep w S c' x ∧ atom c' = true := by
  unfold zeroF at hz
  simp only [Option.bind_eq_some_iff] at hz
  obtain ⟨z0, hz0, hz⟩ := hz
  obtain ⟨h1, h2⟩ := frzL_get hz
  obtain ⟨v, hv, h3, h4⟩ := zeroT_rep (P := P) (w := w) hz0 ⟨w, S, fun _ => none, fun _ => none⟩
  refine ⟨v, hv, by rw [h3, h1], fun j c' x hj hx => ?_⟩
  obtain ⟨c, hc, hf⟩ := h2 j c' hj
  have h5 := (h4 j c x hc hx).1
  refine ⟨?_, (frz1_atom hf).1⟩
  cases c <;> simp only [frz1, Option.some.injEq, reduceCtorEq] at hf <;> try subst hf
  · exact h5
  · have h5 : x = .slice none 0 0 := h5
    subst h5; exact .nil
  · exact h5
  · obtain ⟨_, _, _, _, h6, _⟩ := h5; cases h6
  · exact h5
  · exact h5
  · exact h5
  · obtain rfl : x = .pointer none := h5
    exact .v rfl
theorem newArr_fx (hI : Inv G w0 S0 T g μ a w) {ks : List Key} {es : List (List AV)} {sz : Nat} {xs : Array Value} {t : TypeId} (hks : ∀ k ∈ ks, (g k).isSome)
    (hr : ∀ {g' : Key → Option Ob} {μ' : Key → Option (Nat × Nat)}, Ext w0 S0 w g μ w g' μ' → (∀ k k' b i i', μ' k = some (b, i) → μ' k' = some (b, i') → k = k') → (∀ k ∈ ks, ∀ y, g k = some y → g' k = some (sealObj y)) → ERep w (Stab w0 S0 w g' μ') sz es xs)
    (hf : Fresh g [((d, j), Ob.tail es.length (.of sz) true false)]) :
    Φx w0 S0 g μ w { x := .asl (d, j) es, new := [((d, j), Ob.tail es.length (.of sz) true false)], seals := ks } (.slice (some ⟨w.heap.size, 0, none⟩) es.length es.length) (w.alloc (.cells xs t)) := by
  have hk := hf _ _ (List.mem_cons_self)
  have hb : Below w.heap.size w (w.alloc (.cells xs t)) := (Below.refl _ _).alloc (Nat.le_refl _) _
  let ν : Key → Option (Nat × Nat) := fun k => if k = (d, j) then some (w.heap.size, 0) else none
  have hν : ∀ k b base, ν k = some (b, base) → k = (d, j) ∧ b = w.heap.size ∧ base = 0 := by
    intro k b base h
    simp only [ν] at h
    split at h
    · cases h; exact ⟨by assumption, rfl, rfl⟩
    · cases h
  have hnew : ∀ k b base, ν k = some (b, base) → (getO [((d, j), Ob.tail es.length (.of sz) true false)] k).isSome ∧ w.heap.size ≤ b ∧ b < (w.alloc (.cells xs t)).heap.size := by
    intro k b base h
    obtain ⟨rfl, rfl, rfl⟩ := hν k b base h
    exact ⟨by rw [hk.2]; rfl, Nat.le_refl _, by simp⟩
  have hinj : ∀ k k' b i i', ν k = some (b, i) → ν k' = some (b, i') → k = k' := fun k k' b i i' h h' => by rw [(hν _ _ _ h).1, (hν _ _ _ h').1]
  have hμ0 : μx g μ ν (d, j) = some (w.heap.size, 0) := by simp [μx, hk.1, ν]
  have hg0 : gx g [((d, j), Ob.tail es.length (.of sz) true false)] ks (d, j) = some (.tail es.length (.of sz) true false) := (gx_fresh hks hk.1).trans hk.2
  have E1 := hI.gxE (new := []) ks (Below.refl _ _) (ν := fun _ => none) (fun k b base h => by cases h)
  have i1 := hI.μxInj (w' := w) (new := []) (ν := fun _ => none) (fun k b base h => by cases h) (fun k k' b i i' h => by cases h)
  have hE := hr E1 i1 (fun k hk y hy => by simp [gx, hy, hk])
  have E2 : Ext w0 S0 w (gx g [] ks) (μx g μ fun _ => none) (w.alloc (.cells xs t)) (gx g [((d, j), Ob.tail es.length (.of sz) true false)] ks) (μx g μ ν) := by
    have hgs : ∀ k, (gx g [] ks k).isSome → (g k).isSome := by
      intro k h
      cases hy : g k with
      | some y => rfl
      | none =>
        have h0 : gx g [] ks k = none := by unfold gx; rw [hy]; split <;> rfl
        rw [h0] at h; cases h
    refine ⟨hI.below.size, hb, fun k x h => ⟨x, ?_, .refl x⟩, fun k h => ?_, fun k b base h1 h2 => ?_, fun k b base h => ?_⟩
    · obtain ⟨y, hy⟩ := Option.isSome_iff_exists.1 (hgs k (by rw [h]; rfl))
      unfold gx at h ⊢
      rw [hy] at h ⊢
      exact h
    · simp [μx, hgs k h]
    · have hg : g k = none := by
        cases hy : g k with
        | none => rfl
        | some y => obtain ⟨x', hx', _⟩ := gx_le [] ks hy; rw [hx'] at h2; cases h2
      have h1' : ν k = some (b, base) := by simpa [μx, hg] using h1
      exact ⟨gx_new (hnew k b base h1').1, (hnew k b base h1').2⟩
    · have h' : μ k = some (b, base) := by
        unfold μx at h
        split at h
        · exact h
        · cases h
      obtain ⟨y, hy⟩ := Option.isSome_iff_exists.1 (hI.pl k b base h').1
      obtain ⟨x', hx', _⟩ := gx_le (g := g) [] ks hy
      exact ⟨by rw [hx']; rfl, (hI.pl k b base h').2⟩
  have hheap := heap_alloc_new (w := w) (.cells xs t)
  refine ⟨ν, hb, hnew, hinj, fun k x hg hx => ?_, ?_, hks⟩
  · rw [gx_fresh hks hg] at hx
    have hm := getO_mem hx
    rcases List.mem_cons.1 hm with hm | hm
    · cases hm
      exact ⟨fun _ => rfl, .inr ⟨w.heap.size, 0, xs, t, hμ0, hheap, by rw [Nat.zero_add, hE.1]; exact Nat.le_refl _, fun _ h => by cases h⟩⟩
    · cases hm
  · refine ⟨es.length, .of sz, true, false, hg0, Nat.le_refl _, fun _ => rfl, hE.2.1, .inr ⟨w.heap.size, 0, es.length, fun i j => xs.getD (i * sz + j) default, rfl, Nat.le_refl _, fun _ => ⟨hμ0, xs, t, hheap, by rw [Nat.zero_add, hE.1]; exact Nat.le_refl _⟩, fun i e j' c he hc => ?_⟩⟩
    have hjs : j' < sz := by rw [← hE.2.1 i e he]; exact (List.getElem?_eq_some_iff.1 hc).1
    have hlt := idx_lt (List.getElem?_eq_some_iff.1 he).1 hjs
    have hx : xs[i * sz + j']? = some (xs.getD (i * sz + j') default) := by rw [← hE.1] at hlt; simp [Array.getD, hlt]
    obtain ⟨h5, h6⟩ := hE.2.2 i e j' c _ he hc hx
    exact ⟨.inr ⟨0, es.length, .of sz, true, false, hμ0, hg0, by show 0 + (i * sz + j') < 0 + es.length * sz; omega⟩, cell_of_heap hheap (by rw [Nat.zero_add]; exact hx), h6, E2.frep h5⟩
theorem fz_old (hI : Inv G w0 S0 T g μ a w) : ∀ (ps : List (Nat × Operand)) (q : List (Nat × AV) × List Key), fzParts T G (ps.map fun p => (p.1, cX p.2)) = some q → ∀ k ∈ q.2, (g k).isSome
  | [], q, h, k, hk => by simp [fzParts] at h; subst h; cases hk
  | (i, x) :: ps, q, h, k, hk => by
    simp only [List.map_cons, fzParts, Option.bind_eq_some_iff, Option.some.injEq] at h
    obtain ⟨y, hy, m, hm, rfl⟩ := h
    rcases List.mem_append.1 hk with hk | hk
    · exact keys_old (hI.ev x) k hk
    · exact fz_old hI ps m hm k hk
theorem fillE_len : ∀ {ps : List (Nat × AV)} {sz : Nat} {es es' : List (List AV)}, fillE sz es ps = some es' → es'.length = es.length
  | [], sz, es, es', h => by simp [fillE] at h; rw [h]
  | (i, x) :: ps, sz, es, es', h => by
    simp only [fillE] at h
    split at h
    · rw [fillE_len h]; simp
    · cases h
theorem x_bsl (hI : Inv G w0 S0 T g μ a w) {t e : TypeId} {n sz : Nat} {ps : Array (Nat × Operand)} {z : List AV} (hu : P.underlying t = some (.slice e)) (hs : szT P e = some sz) (h0 : 0 < sz) (hn : n * sz ≤ 16777216)
    (hz : (n = 0 ∧ z = []) ∨ (zeroF P e = some z ∧ z.length = sz)) (ho : o.op = .buildSlice t n ps) (hd : denX call G T g0 d j (.bsl n (.of sz) z (ps.toList.map fun p => (p.1, cX p.2))) = some r) (hf : Fresh g r.new) : XRes P (Φx w0 S0 g μ w r) o a w := by
  simp only [denX, Option.bind_eq_some_iff, Option.some.injEq] at hd
  obtain ⟨q, hq, es, hes, rfl⟩ := hd
  have hlen : es.length = n := by rw [fillE_len hes]; simp
  obtain ⟨vs, hv, hvr⟩ : ∃ vs : Array Value, ((n * sz = 0 ∧ vs = #[]) ∨ (n * sz ≠ 0 ∧ ∃ v, (zeroValue e).run P w = .ok v w ∧ vs = v.cells)) ∧ ∀ S : Nat → Nat → Prop, ERep w S sz (List.replicate n z) ((Array.range (n * sz)).map (vs[· % vs.size]!)) := by
    rcases hz with ⟨rfl, rfl⟩ | ⟨hz, hzl⟩
    · exact ⟨#[], .inl ⟨by simp, rfl⟩, fun S => ⟨by simp, fun i e h => by simp at h, fun i e j c x h => by simp at h⟩⟩
    · by_cases hn0 : n = 0
      · subst hn0
        exact ⟨#[], .inl ⟨by simp, rfl⟩, fun S => ⟨by simp, fun i e h => by simp at h, fun i e j c x h => by simp at h⟩⟩
      · obtain ⟨v, hv, h1, _⟩ := zeroF_rep (P := P) (w := w) (S := fun _ _ => True) hz
        have hne : n * sz ≠ 0 := by
          intro h
          rcases Nat.mul_eq_zero.1 h with h | h <;> omega
        refine ⟨v.cells, .inr ⟨hne, v, hv, rfl⟩, fun S => ?_⟩
        obtain ⟨v', hv', h1', h2'⟩ := zeroF_rep (P := P) (w := w) (S := S) hz
        rw [hv] at hv'
        cases hv'
        exact zeros_rep hzl (by rw [h1', hzl]) h2'
  have hx : ∃ xs', Instr.fill (fun i => some (i * sz, sz)) ((Array.range (n * sz)).map (vs[· % vs.size]!)) (ps.toList.map fun p => (p.1, a.eval p.2)) = some xs' ∧
      ∀ {g' : Key → Option Ob} {μ' : Key → Option (Nat × Nat)}, Ext w0 S0 w g μ w g' μ' → (∀ k k' b i i', μ' k = some (b, i) → μ' k' = some (b, i') → k = k') → (∀ k ∈ q.2, ∀ y, g k = some y → g' k = some (sealObj y)) → ERep w (Stab w0 S0 w g' μ') sz es xs' := by
    have one : ∀ {g' : Key → Option Ob} {μ' : Key → Option (Nat × Nat)}, Ext w0 S0 w g μ w g' μ' → (∀ k k' b i i', μ' k = some (b, i) → μ' k' = some (b, i') → k = k') → (∀ k ∈ q.2, ∀ y, g k = some y → g' k = some (sealObj y)) →
        ∃ xs', Instr.fill (fun i => some (i * sz, sz)) ((Array.range (n * sz)).map (vs[· % vs.size]!)) (ps.toList.map fun p => (p.1, a.eval p.2)) = some xs' ∧ ERep w (Stab w0 S0 w g' μ') sz es xs' := by
      intro g' μ' E hinj hk
      exact fillE_run (a := a) (G := G) (T := T) ps.toList q _ es _ hq (fun x y hy hks => frz_rep E hinj hy (fun k hk' => hk k (hks k hk')) (hI.ev x)) hes (hvr _)
    have E1 := hI.gxE (new := []) q.2 (Below.refl _ _) (ν := fun _ => none) (fun k b base h => by cases h)
    have i1 := hI.μxInj (w' := w) (new := []) (ν := fun _ => none) (fun k b base h => by cases h) (fun k k' b i i' h => by cases h)
    obtain ⟨xs', h1, _⟩ := one E1 i1 (fun k hk y hy => by simp [gx, hy, hk])
    refine ⟨xs', h1, fun E hinj hk => ?_⟩
    obtain ⟨xs'', h2, h3⟩ := one E hinj hk
    rw [h1] at h2
    cases h2
    exact h3
  obtain ⟨xs, hfill, hE⟩ := hx
  have hlen' := hlen
  subst hlen'
  refine .inl ⟨_, _, ?_, newArr_fx (t := e) hI (fz_old hI ps.toList q hq) hE hf⟩
  have hn' : ¬ es.length * sz > 2 ^ 24 := by omega
  rcases hv with ⟨h1, rfl⟩ | ⟨h1, v, hv, rfl⟩
  · simp only [execOp, ho, Instr.buildSlice, Sem.run_bind, run_und hu, Result.andThen_ok, run_sizeOf hs, if_neg hn', if_pos h1]
    simp only [List.length_nil, Array.size_empty] at hfill
    simp at hfill
    simp [hfill, newRow, newObj, Sem.run]
  · simp only [execOp, ho, Instr.buildSlice, Sem.run_bind, run_und hu, Result.andThen_ok, run_sizeOf hs, if_neg hn', if_neg h1]
    simp [hv, hfill, newRow, newObj, Sem.run]
end
end Go.Proofs.YtmhdapjmndfkgaaGreatDoor.Eng
namespace Go.Proofs.YtmhdapjmndfkgaaGreatDoor.Eng
open Go Go.RowKit
section
variable {P : Program} {G : Nat → AV} {w0 w w' : World} {S0 : Sb} {T : List AV} {g : Key → Option Ob} {μ ν : Key → Option (Nat × Nat)} {a : Act} {o : Oper} {r : R} {call : Call} {g0 : Key → Option Ob} {d j : Nat}
theorem x_mks (hI : Inv G w0 S0 T g μ a w) {t e : TypeId} {sz b : Nat} {n c : Operand} {z : List AV} (hu : P.underlying t = some (.slice e)) (hs : szT P e = some sz) (hb : bytesT P e = some b) (hb0 : 0 < b)
    (hz : zeroF P e = some z) (hzl : z.length = sz) (ho : o.op = .makeSlice t n c) (hd : denX call G T g0 d j (.mks (.of sz) b z (cX n) (cX c)) = some r) (hf : Fresh g r.new) : XRes P (Φx w0 S0 g μ w r) o a w := by
  simp only [denX] at hd
  have hn := hI.ev n
  have hc := hI.ev c
  split at hd
  · rename_i n' c' h1 h2
    rw [h1] at hn; rw [h2] at hc
    split at hd
    · rename_i hh
      cases hd
      obtain ⟨rfl, h0, hle⟩ := hh
      obtain ⟨m, rfl⟩ : ∃ m : Nat, n' = m := ⟨n'.toNat, by omega⟩
      simp only [Int.toNat_natCast] at hf ⊢
      have hm : m ≤ 70368744177664 := by
        have h5 : ((b * m : Nat) : Int) ≤ 70368744177664 := by rw [Int.natCast_mul]; exact hle
        have h6 : m ≤ b * m := Nat.le_mul_of_pos_left _ hb0
        omega
      unfold bytesT at hb
      unfold szT at hs
      simp only [Option.map_eq_some_iff] at hb hs
      obtain ⟨i, hi, rfl⟩ := hb
      obtain ⟨i', hi', rfl⟩ := hs
      rw [hi] at hi'
      cases hi'
      obtain ⟨v, hv, h3, _⟩ := zeroF_rep (P := P) (w := w) (S := fun _ _ => True) hz
      have hzv : i.zero = some v := by
        unfold zeroF zeroT at hz
        simp only [Option.bind_eq_some_iff] at hz
        obtain ⟨z0, ⟨v', ⟨i'', hi'', hz''⟩, _⟩, _⟩ := hz
        rw [hi] at hi''
        cases hi''
        rw [run_zero (by rw [hi]; exact hz'')] at hv
        cases hv
        exact hz''
      have hr := run_make (P := P) w t e i v hu hi hzv .i64 .i64 m m (by omega) (Int.le_refl _) (by omega) (by omega)
      simp only [Int.toNat_natCast] at hr
      have hE : ∀ S : Nat → Nat → Prop, ERep w S i.size (List.replicate m z) (madeCells v.cells (m * i.size)) := by
        intro S
        obtain ⟨v', hv', h1', h2'⟩ := zeroF_rep (P := P) (w := w) (S := S) hz
        rw [hv] at hv'
        cases hv'
        exact zeros_rep hzl (by rw [h1', hzl]) h2'
      have hfx := newArr_fx (t := e) (ks := []) (es := List.replicate m z) (sz := i.size) (xs := madeCells v.cells (m * i.size)) hI (by simp) (fun _ _ _ => hE _) (by rw [List.length_replicate]; exact hf)
      rw [List.length_replicate] at hfx
      exact .inl ⟨_, _, by simp [execOp, ho, hn.v_inv, hc.v_inv, hr], hfx⟩
    · cases hd
  · cases hd
theorem LRep.to1 {C : Ctx} {c c' : AV} {x : Value} (hf : frz1 c = some c') (h : LRep C c x) : LRep1 C c x := by
  cases c <;> first | exact h | (simp [frz1] at hf)
theorem lenOk_get {sz : Nat} {es : List (List AV)} (h : lenOk sz es = true) (i : Nat) (e : List AV) (he : es[i]? = some e) : e.length = sz := by
  have := List.all_eq_true.1 h e (List.mem_of_getElem? he)
  simpa using this
theorem x_slv (hI : Inv G w0 S0 T g μ a w) {t e : TypeId} {sz : Nat} {x : Operand} {lo hi : Option Operand} (hu : P.underlying t = some (.slice e)) (hs : szT P e = some sz)
    (ho : o.op = .slice t x lo hi none) (hd : denX call G T g0 d j (.slv sz (cX x) (lo.map cX) (hi.map cX)) = some r) : XRes P (Φx w0 S0 g μ w r) o a w := by
  have hx := hI.ev x
  simp only [denX] at hd
  split at hd
  · rename_i k es hes
    rw [hes] at hx
    split at hd
    · rename_i hlen
      split at hd
      · rename_i hh hhe
        split at hd
        · rename_i l hle
          cases hd
          obtain ⟨len, sz', mu, shr, g1, g2, g3, g4, g5⟩ := hx
          rcases g5 with ⟨_, h1, _⟩ | ⟨b, q, cap, X, h1, hk, h2, h3⟩
          · subst h1; simp at hlen
          · have hsz : sz' = sz := by
              rw [← g4 0 _ (List.getElem?_eq_getElem hlen.2)]
              exact lenOk_get hlen.1 0 _ (List.getElem?_eq_getElem hlen.2)
            subst hsz
            obtain ⟨hb, h5, h6⟩ := bounds_run (P := P) (isS := true) (cap := cap) hI hk hhe hle
            refine .inl ⟨.slice (some ⟨b, if cap = l then q else q + l * sz', none⟩) (hh - l) (cap - l), w, ?_, _, hI.fxPure (show LRep _ (.sub k l (hh - l)) _ from ?_)⟩
            · simp only [execOp, ho, h1, Instr.sliceAt, Sem.run_bind, run_und hu, Result.andThen_ok, Instr.slice, hb, run_sizeOf hs, Option.map_some, Option.map_none, Sem.run_pure, addr_add]
              by_cases hcl : cap = l <;> simp [hcl]
            · refine ⟨b, _, cap - l, len, sz', mu, shr, rfl, g1, fun hm => ?_⟩
              have hel := g3 hm
              obtain ⟨h7, _⟩ := h2 hel
              refine ⟨q, h7, ?_, by omega, by omega⟩
              by_cases hcl : cap = l
              · rw [if_pos hcl]
                by_cases hl : l = 0
                · subst hl; left; simp
                · right; omega
              · rw [if_neg hcl]; exact .inl rfl
        · cases hd
      · cases hd
    · cases hd
  · cases hd
theorem x_slc (hI : Inv G w0 S0 T g μ a w) {t e : TypeId} {sz : Nat} {x : Operand} {lo hi : Option Operand} (hu : P.underlying t = some (.slice e)) (hs : szT P e = some sz)
    (ho : o.op = .slice t x lo hi none) (hd : denX call G T g0 d j (.slc sz (cX x) (lo.map cX) (hi.map cX)) = some r) : XRes P (Φx w0 S0 g μ w r) o a w := by
  have hx := hI.ev x
  simp only [denX] at hd
  split at hd
  · rename_i es hes
    split at hd
    · rename_i hlen
      split at hd
      · rename_i hh hhe
        split at hd
        · rename_i l hle
          cases hd
          have fr : ∀ {g' : Key → Option Ob} {μ' : Key → Option (Nat × Nat)}, Ext w0 S0 w g μ w g' μ' → (∀ k k' b i i', μ' k = some (b, i) → μ' k' = some (b, i') → k = k') → (∀ k ∈ keys1 (ev T G (cX x)), ∀ y, g k = some y → g' k = some (sealObj y)) →
              FRep w (Stab w0 S0 w g' μ') (.fsl es) (a.eval x) := by
            intro g' μ' E hinj hk
            have h1 : frz1 (ev T G (cX x)) = some (.fsl es) := by
              revert hes
              cases ev T G (cX x) <;> simp [elemsOf, frz1]
            exact frz1_rep E hinj h1 hk (hx.to1 h1)
          have hold : ∀ k ∈ keys1 (ev T G (cX x)), (g k).isSome := by
            have h1 : frz1 (ev T G (cX x)) = some (.fsl es) := by
              revert hes
              cases ev T G (cX x) <;> simp [elemsOf, frz1]
            exact keys1_old (hx.to1 h1)
          rcases slice_inv hes hx with ⟨h1, rfl⟩ | ⟨a0, cap, h1, rfl⟩ | ⟨b, q, cap, sz', X, h1, hk, h2, h3⟩
          · obtain ⟨hb, _, _⟩ := bounds_run (P := P) (isS := true) (n := 0) (cap := 0) hI (Nat.le_refl _) hhe hle
            have e1 : l = 0 ∧ hh = 0 := by
              obtain ⟨_, h5, h6⟩ := bounds_run (P := P) (isS := true) (n := 0) (cap := 0) hI (Nat.le_refl _) hhe hle
              omega
            obtain ⟨rfl, rfl⟩ := e1
            refine .inl ⟨.slice none 0 0, w, ?_, _, hI.fxSeal _ hold fun E hinj hk => show FRep _ _ _ _ from .nil⟩
            simp [execOp, ho, h1, Instr.sliceAt, run_und hu, Instr.slice, hb, run_sizeOf hs]
          · obtain ⟨hb, h5, h6⟩ := bounds_run (P := P) (isS := true) (n := 0) (cap := cap) hI (Nat.zero_le _) hhe hle
            have e1 : l = 0 ∧ hh = 0 := by omega
            obtain ⟨rfl, rfl⟩ := e1
            refine .inl ⟨.slice (some a0) 0 cap, w, ?_, _, hI.fxSeal _ hold fun E hinj hk => show FRep _ _ _ _ from .emp⟩
            simp only [execOp, ho, h1, Instr.sliceAt, Sem.run_bind, run_und hu, Result.andThen_ok, Instr.slice, hb, run_sizeOf hs, Option.map_some, Option.map_none, Sem.run_pure]
            by_cases hcl : cap = 0
            · simp [hcl]
            · simp [hcl, Addr.add]
          · obtain ⟨hb, h5, h6⟩ := bounds_run (P := P) (isS := true) (cap := cap) hI hk hhe hle
            refine .inl ⟨.slice (some (if cap = l then ⟨b, q, none⟩ else ⟨b, q + l * sz, none⟩)) (hh - l) (cap - l), w, ?_, _, hI.fxSeal _ hold fun E hinj hks => ?_⟩
            · simp only [execOp, ho, h1, Instr.sliceAt, Sem.run_bind, run_und hu, Result.andThen_ok, Instr.slice, hb, run_sizeOf hs, Option.map_some, Option.map_none, Sem.run_pure, addr_add]
              by_cases hcl : cap = l <;> simp [hcl]
            · have hF := fr E hinj hks
              rw [h1] at hF
              have hlen' : ((es.take hh).drop l).length = hh - l := by simp; omega
              have hget : ∀ (i : Nat) (e : List AV), ((es.take hh).drop l)[i]? = some e → es[l + i]? = some e := by
                intro i e he
                rw [List.getElem?_drop] at he
                have : l + i < hh := by
                  have := (List.getElem?_eq_some_iff.1 he).1
                  simp at this; omega
                rwa [List.getElem?_take_of_lt this] at he
              show FRep _ _ _ _
              rw [← hlen']
              cases hF with
              | emp =>
                have he0 : ∀ n m, (([] : List (List AV)).take n).drop m = [] := fun n m => by simp
                rw [he0]
                exact .emp
              | sl X' hk' hl' hc' hr' =>
                rename_i sz''
                by_cases hcl : cap = l
                · have he0 : (es.take hh).drop l = [] := by
                    apply List.eq_nil_of_length_eq_zero; rw [hlen']; omega
                  rw [he0, if_pos hcl]
                  exact .sl (sz := sz) (fun _ _ => default) (by simp) (by simp) (by simp) (by simp)
                · rw [if_neg hcl]
                  refine .sl (sz := sz) (fun i j => X' (l + i) j) (by rw [hlen']; omega) (fun i e he => lenOk_get hlen _ _ (hget i e he)) (fun i e j c he hj => ?_) (fun i e j c he hj => hr' _ _ _ _ (hget i e he) hj)
                  have hsz : sz'' = sz := by rw [← hl' _ _ (hget i e he)]; exact lenOk_get hlen _ _ (hget i e he)
                  subst hsz
                  have := hc' _ _ _ _ (hget i e he) hj
                  rw [show q + l * sz'' + (i * sz'' + j) = q + ((l + i) * sz'' + j) by rw [Nat.add_mul]; omega]
                  exact this
        · cases hd
      · cases hd
    · cases hd
  · cases hd
theorem capOf_run (hI : Inv G w0 S0 T g μ a w) (hg0 : ∀ k x, g0 k = some x → ∃ x', g k = some x' ∧ Le x x') {x : Operand} {p : AV × List Key} (hp : capOf G T g0 (cX x) = some p)
    {g' : Key → Option Ob} {μ' : Key → Option (Nat × Nat)} (E : Ext w0 S0 w g μ w g' μ') (hinj : ∀ k k' b i i', μ' k = some (b, i) → μ' k' = some (b, i') → k = k') (hk : ∀ k ∈ p.2, ∀ y, g k = some y → g' k = some (sealObj y)) :
    FRep w (Stab w0 S0 w g' μ') p.1 (a.eval x) := by
  have hx := hI.ev x
  unfold capOf at hp
  split at hp
  · rename_i k h
    rw [h] at hx
    split at hp
    · rename_i cs s hgk
      simp only [Option.map_eq_some_iff] at hp
      obtain ⟨l, hl, rfl⟩ := hp
      obtain ⟨x', hx', hle⟩ := hg0 k _ hgk
      obtain ⟨s', rfl⟩ := hle.var
      obtain ⟨b, cs', s1, h1, h2, h3⟩ := hx
      obtain ⟨b', xs, ty, h4, h5, h6, h7⟩ := hI.ob k _ hx'
      have h2' : μ k = some (b, 0) := h2
      have h4' : μ k = some (b', 0) := h4
      rw [h2'] at h4'
      cases h4'
      obtain ⟨h8, h9⟩ := frzL_get hl
      have hg' := hk k List.mem_cons_self _ hx'
      have hμ : μ' k = some (b, 0) := by rw [E.μeq k (by rw [hx']; rfl)]; exact h2'
      have hpl := E.pl k b 0 h2'
      rw [h3]
      refine .ptr (fun j => xs.getD j default) (fun j c hj => ?_) (fun j c hj => ?_)
      · obtain ⟨c0, hc0, hf⟩ := h9 j c hj
        have hlt : j < xs.size := by rw [h6]; exact (List.getElem?_eq_some_iff.1 hc0).1
        refine ⟨.inr ⟨hpl.2.1, Nat.lt_of_lt_of_le hpl.2.2 E.below.size, fun k' base' hk' => ?_⟩, ?_, (frz1_atom hf).1⟩
        · obtain rfl := hinj k' k b base' 0 hk' hμ
          rw [hg']
          rfl
        · rw [Nat.zero_add]
          exact cell_of_heap h5 (by simp [Array.getD, hlt])
      · obtain ⟨c0, hc0, hf⟩ := h9 j c hj
        have hlt : j < xs.size := by rw [h6]; exact (List.getElem?_eq_some_iff.1 hc0).1
        refine frz1_rep E hinj hf (fun k' hk' => hk k' (List.mem_cons_of_mem _ ?_)) (h7.1 j c0 _ hc0 (by simp [Array.getD, hlt])).1
        rw [List.mem_flatMap]
        exact ⟨c0, List.mem_of_getElem? hc0, hk'⟩
    · cases hp
  · simp only [Option.map_eq_some_iff] at hp
    obtain ⟨y, hy, rfl⟩ := hp
    exact frz1_rep E hinj hy hk (hx.to1 hy)
theorem capOf_old (hI : Inv G w0 S0 T g μ a w) (hg0 : ∀ k x, g0 k = some x → ∃ x', g k = some x' ∧ Le x x') {x : Operand} {p : AV × List Key} (hp : capOf G T g0 (cX x) = some p) : ∀ k ∈ p.2, (g k).isSome := by
  have hx := hI.ev x
  unfold capOf at hp
  split at hp
  · rename_i k h
    split at hp
    · rename_i cs s hgk
      simp only [Option.map_eq_some_iff] at hp
      obtain ⟨l, hl, rfl⟩ := hp
      obtain ⟨x', hx', hle⟩ := hg0 k _ hgk
      obtain ⟨s', rfl⟩ := hle.var
      obtain ⟨b', xs, ty, h4, h5, h6, h7⟩ := hI.ob k _ hx'
      intro k' hk'
      rcases List.mem_cons.1 hk' with rfl | hk'
      · rw [hx']; rfl
      · obtain ⟨c, hc, hk'⟩ := List.mem_flatMap.1 hk'
        obtain ⟨j, hj, rfl⟩ := List.mem_iff_getElem.1 hc
        exact keys1_old (h7.1 j _ _ (List.getElem?_eq_getElem hj) (Array.getElem?_eq_getElem (by omega))).1 k' hk'
    · cases hp
  · simp only [Option.map_eq_some_iff] at hp
    obtain ⟨y, hy, rfl⟩ := hp
    exact keys1_old (hx.to1 hy)
theorem capsOf_old (hI : Inv G w0 S0 T g μ a w) (hg0 : ∀ k x, g0 k = some x → ∃ x', g k = some x' ∧ Le x x') : ∀ (xs : List Operand) (q : List AV × List Key), capsOf G T g0 (xs.map cX) = some q → ∀ k ∈ q.2, (g k).isSome
  | [], q, h => by simp [capsOf] at h; subst h; exact fun k hk => by cases hk
  | x :: xs, q, h => by
    simp only [List.map_cons, capsOf, Option.bind_eq_some_iff, Option.some.injEq] at h
    obtain ⟨p, hp, m, hm, rfl⟩ := h
    intro k hk
    rcases List.mem_append.1 hk with hk | hk
    · exact capOf_old hI hg0 hp k hk
    · exact capsOf_old hI hg0 xs m hm k hk
theorem capsOf_run (hI : Inv G w0 S0 T g μ a w) (hg0 : ∀ k x, g0 k = some x → ∃ x', g k = some x' ∧ Le x x') : ∀ (xs : List Operand) (q : List AV × List Key), capsOf G T g0 (xs.map cX) = some q →
    ∀ {g' : Key → Option Ob} {μ' : Key → Option (Nat × Nat)}, Ext w0 S0 w g μ w g' μ' → (∀ k k' b i i', μ' k = some (b, i) → μ' k' = some (b, i') → k = k') → (∀ k ∈ q.2, ∀ y, g k = some y → g' k = some (sealObj y)) →
    q.1.length = xs.length ∧ ∀ (i : Nat) (c : AV) (x : Operand), q.1[i]? = some c → xs[i]? = some x → FRep w (Stab w0 S0 w g' μ') c (a.eval x)
  | [], q, h, g', μ', _, _, _ => by simp [capsOf] at h; subst h; exact ⟨rfl, fun i c x h => by simp at h⟩
  | x :: xs, q, h, g', μ', E, hinj, hk => by
    simp only [List.map_cons, capsOf, Option.bind_eq_some_iff, Option.some.injEq] at h
    obtain ⟨p, hp, m, hm, rfl⟩ := h
    obtain ⟨h1, h2⟩ := capsOf_run hI hg0 xs m hm E hinj (fun k hk' => hk k (List.mem_append_right _ hk'))
    refine ⟨by simp [h1], fun i c y hc hy => ?_⟩
    cases i with
    | zero => simp at hc hy; subst hc hy; exact capOf_run hI hg0 hp E hinj (fun k hk' => hk k (List.mem_append_left _ hk'))
    | succ i => exact h2 i c y hc hy
theorem x_mkf (hI : Inv G w0 S0 T g μ a w) (hg0 : ∀ k x, g0 k = some x → ∃ x', g k = some x' ∧ Le x x') {f : FuncId} {first caps : Array Operand} (hfi : first.isEmpty = true) (ho : o.op = .makeFunc (.func f) first caps)
    (hd : denX call G T g0 d j (.mkf f (caps.toList.map cX)) = some r) : XRes P (Φx w0 S0 g μ w r) o a w := by
  simp only [denX, Option.bind_eq_some_iff, Option.some.injEq] at hd
  obtain ⟨q, hq, rfl⟩ := hd
  have hfi' : first = #[] := by simpa using hfi
  refine .inl ⟨.func (.func f) #[] (caps.map a.eval), w, by simp [execOp, ho, Instr.makeFunc, hfi'], _, hI.fxSeal _ (capsOf_old hI hg0 caps.toList q hq) fun E hinj hk => ?_⟩
  obtain ⟨h1, h2⟩ := capsOf_run hI hg0 caps.toList q hq E hinj hk
  refine show FRep _ _ _ _ from .fn (fun j => (caps.map a.eval).getD j default) (by rw [h1]; simp) (fun j c hj => ?_) (fun j c hj => ?_)
  · have hlt : j < caps.size := by rw [← Array.length_toList, ← h1]; exact (List.getElem?_eq_some_iff.1 hj).1
    simp [Array.getD, hlt]
  · have hlt : j < caps.size := by rw [← Array.length_toList, ← h1]; exact (List.getElem?_eq_some_iff.1 hj).1
    have := h2 j c caps[j] hj (by rw [Array.getElem?_toList]; exact Array.getElem?_eq_getElem hlt)
    rw [show (caps.map a.eval).getD j default = a.eval caps[j] by simp [Array.getD, hlt]]
    exact this
end
end Go.Proofs.YtmhdapjmndfkgaaGreatDoor.Eng
namespace Go.Proofs.YtmhdapjmndfkgaaGreatDoor.Eng
open Go Go.RowKit
theorem _root_.Go.Lib.run_eql_ptr_same' {P : Program} (w : World) {tp te : TypeId} {j : TypeInfo} (a : Addr) (hp : P.underlying tp = some (.pointer te)) (hte : P.info? te = some j) :
    (binOp .eql tp (.pointer (some a)) (.pointer (some a))).run P w = .ok (.bool true) w := by
  have h : ∀ d : Nat, (Op.equalIn (d + 1) tp (.pointer (some a)) (.pointer (some a))).run P w = .ok true w := fun d => by
    simp [Op.equalIn, run_underlying hp, sizeOf, typeInfo, hte, run_sameAddr_same]
  simp only [binOp]
  simp [Op.equal, Op.maxDepth, h 9999]
section
variable {P : Program} {G : Nat → AV} {w0 w w' : World} {S0 : Sb} {T : List AV} {g : Key → Option Ob} {μ ν : Key → Option (Nat × Nat)} {a : Act} {o : Oper} {r : R} {call : Call} {g0 : Key → Option Ob} {d j : Nat}
def VRep (C : Ctx) (cs : List AV) (vs : Array Value) : Prop := vs.size = cs.length ∧ ∀ (j : Nat) (c : AV) (x : Value), cs[j]? = some c → vs[j]? = some x → LRep1 C c x
theorem VRep.cut {C : Ctx} {cs : List AV} {vs : Array Value} (h : VRep C cs vs) (off n : Nat) : VRep C ((cs.drop off).take n) (vs.extract off (off + n)) := by
  refine ⟨by rw [Array.size_extract, List.length_take, List.length_drop, h.1]; omega, fun j c x hj hx => ?_⟩
  have hjn : j < n := by
    have := (List.getElem?_eq_some_iff.1 hj).1
    simp at this; omega
  have hj' : cs[off + j]? = some c := by rw [List.getElem?_take_of_lt hjn] at hj; exact drop_get hj
  have hx' : vs[off + j]? = some x := by
    rw [Array.getElem?_extract] at hx
    split at hx
    · exact hx
    · cases hx
  exact h.2 _ c x hj' hx'
def valOf (ag : Bool) (vs : Array Value) : Value := if ag then .agg vs else vs.getD 0 default
theorem part_val {t : TypeId} {ag : Bool} {n off : Nat} {vs : Array Value} (hg : aggT P t = some ag) (hn : szT P t = some n) (h1 : ag = true ∨ n = 1) (hle : off + n ≤ vs.size) :
    (part t vs off).run P w = .ok (valOf ag (vs.extract off (off + n))) w := by
  cases ag with
  | true => simp [part, run_isAgg hg, run_sizeOf hn, valOf]
  | false =>
    obtain rfl : n = 1 := by simpa using h1
    have hx : vs[off]? = some vs[off] := Array.getElem?_eq_getElem (by omega)
    have : (vs.extract off (off + 1)).getD 0 default = vs[off] := by
      rw [Array.getD_eq_getD_getElem?, Array.getElem?_extract, if_pos (by omega), Nat.add_zero, hx]; rfl
    simp [part, run_isAgg hg, hx, valOf, this]
theorem eqCells_len : ∀ {ks : List Nat} {l m : List AV} {e : Bool}, eqCells ks l m = some e → l.length = ks.length ∧ m.length = ks.length
  | [], [], [], _, _ => ⟨rfl, rfl⟩
  | q :: ks, x :: l, y :: m, e, h => by
    simp only [eqCells, Option.bind_eq_some_iff, Option.some.injEq] at h
    obtain ⟨b, _, c, hc, _⟩ := h
    obtain ⟨h1, h2⟩ := eqCells_len hc
    simp [h1, h2]
  | [], [], _ :: _, _, h => by simp [eqCells] at h
  | [], _ :: _, _, _, h => by simp [eqCells] at h
  | _ :: _, [], _, _, h => by simp [eqCells] at h
  | _ :: _, _ :: _, [], _, h => by simp [eqCells] at h
theorem eqCells_split : ∀ {ks ks' : List Nat} {l m : List AV} {e : Bool}, eqCells (ks ++ ks') l m = some e → ∃ e1 e2, eqCells ks (l.take ks.length) (m.take ks.length) = some e1 ∧ eqCells ks' (l.drop ks.length) (m.drop ks.length) = some e2 ∧ e = (e1 && e2)
  | [], ks', l, m, e, h => ⟨true, e, by simp [eqCells], by simpa using h, by simp⟩
  | q :: ks, ks', l, m, e, h => by
    match l, m, h with
    | x :: l, y :: m, h =>
      simp only [List.cons_append, eqCells, Option.bind_eq_some_iff, Option.some.injEq] at h
      obtain ⟨b, hb, c, hc, rfl⟩ := h
      obtain ⟨e1, e2, h1, h2, rfl⟩ := eqCells_split hc
      exact ⟨b && e1, e2, by simp [eqCells, hb, h1], by simpa using h2, by simp [Bool.and_assoc]⟩
    | [], _, h => simp [eqCells] at h
    | _ :: _, [], h => simp [eqCells] at h
theorem eqOne {C : Ctx} {q : Nat} {t : TypeId} {d : Nat} {x y : AV} {u v : Value} {e : Bool} (ht : (q = 0 ∧ ∃ k, P.underlying t = some (.int k)) ∨ (q = 1 ∧ P.underlying t = some .bool) ∨ (q = 2 ∧ P.underlying t = some .string)) (h : eqCell q x y = some e) (hx : LRep1 C x u) (hy : LRep1 C y v) :
    (Op.equalIn (d + 1) t u v).run P w = .ok e w := by
  unfold eqCell at h
  have fv : ∀ {z : Value} {v : Value}, LRep1 C (.v z) v → v = z := fun h => LRep.v_inv (C := C) h
  split at h
  · rename_i k a' k' b'
    split at h
    · rename_i hk
      subst hk
      cases h
      rw [fv hx, fv hy]
      rcases ht with ⟨_, k2, ht⟩ | ⟨h, _⟩ | ⟨h, _⟩
      · exact run_equalIn_int w d t _ _ _ _ ht
      · cases h
      · cases h
    · cases h
  · cases h
    rw [fv hx, fv hy]
    rcases ht with ⟨h, _⟩ | ⟨_, ht⟩ | ⟨h, _⟩
    · cases h
    · exact run_equalIn_bool' w d t _ _ ht
    · cases h
  · cases h
    rw [fv hx, fv hy]
    rcases ht with ⟨h, _⟩ | ⟨h, _⟩ | ⟨_, ht⟩
    · cases h
    · cases h
    · exact run_equalIn_string w d t _ _ ht
  · cases h
theorem eqAll {C : Ctx} {d : Nat} : ∀ (n : Nat) (t : TypeId) (ks : List Nat) (ag : Bool) (l m : List AV) (vs us : Array Value) (e : Bool), eqKinds P n t = some ks → aggT P t = some ag → VRep C l vs → VRep C m us → eqCells ks l m = some e →
    (Op.equalIn (d + n) t (valOf ag vs) (valOf ag us)).run P w = .ok e w
  | 0, t, ks, ag, l, m, vs, us, e, hk, _, _, _, _ => by simp [eqKinds] at hk
  | n + 1, t, ks, ag, l, m, vs, us, e, hk, hag, hl, hm, he => by
    have basic : ∀ q, ks = [q] → ag = false → ((q = 0 ∧ ∃ k, P.underlying t = some (.int k)) ∨ (q = 1 ∧ P.underlying t = some .bool) ∨ (q = 2 ∧ P.underlying t = some .string)) → (Op.equalIn (d + (n + 1)) t (valOf ag vs) (valOf ag us)).run P w = .ok e w := by
      rintro q rfl rfl ht
      obtain ⟨h1, h2⟩ := eqCells_len he
      match l, m, h1, h2 with
      | [x], [y], _, _ =>
        simp only [eqCells, Option.bind_eq_some_iff, Option.some.injEq, Bool.and_true] at he
        obtain ⟨b, hb, c, rfl, rfl⟩ := he
        have s1 := hl.1
        have s2 := hm.1
        simp at s1 s2
        have e1 : vs[0]? = some (vs.getD 0 default) := by simp [Array.getD, s1]
        have e2 : us[0]? = some (us.getD 0 default) := by simp [Array.getD, s2]
        rw [Bool.and_true]
        exact eqOne (d := d + n) ht hb (hl.2 0 x _ rfl e1) (hm.2 0 y _ rfl e2)
    unfold eqKinds at hk
    have hag' := hag
    unfold aggT at hag'
    split at hk
    · rename_i k hu
      rw [hu] at hag'
      cases hk
      exact basic 0 rfl (by simpa using hag'.symm) (.inl ⟨rfl, k, hu⟩)
    · rename_i hu
      rw [hu] at hag'
      cases hk
      exact basic 1 rfl (by simpa using hag'.symm) (.inr (.inl ⟨rfl, hu⟩))
    · rename_i hu
      rw [hu] at hag'
      cases hk
      exact basic 2 rfl (by simpa using hag'.symm) (.inr (.inr ⟨rfl, hu⟩))
    · rename_i fs hu
      rw [hu] at hag'
      simp only [Option.map_some, Option.some.injEq] at hag'
      subst hag'
      split at hk
      · cases hk
      · rename_i hst
        have hf : P.fieldsOf t = fs := by simp [Program.fieldsOf, hu]
        have hst' : P.stoodInHeld t = false := by simpa using hst
        show (Op.equalIn (d + n + 1) t (.agg vs) (.agg us)).run P w = .ok e w
        rw [run_equalIn_struct (P := P) w (d + n) t vs us (by rw [hf]; exact hu) hst', hf]
        have row : ∀ (fl : List Field) (off : Nat) (ks : List Nat) (e : Bool), eqRow P (eqKinds P n) off fl = some ks → eqCells ks (l.drop off) (m.drop off) = some e → (Op.eqFields (d + n) vs us fl).run P w = .ok e w := by
          intro fl
          induction fl with
          | nil =>
            intro off ks e hk he
            simp only [eqRow, Option.some.injEq] at hk
            subst hk
            have : e = true := by
              unfold eqCells at he
              split at he <;> simp_all
            subst this
            simp [Op.eqFields]
          | cons f fl ih =>
            intro off ks e hk he
            simp only [eqRow, Option.bind_eq_some_iff] at hk
            obtain ⟨k1, hk1, ag, hag, hk⟩ := hk
            split at hk
            · rename_i hc
              obtain ⟨hn, rfl, hsz, hone⟩ := hc
              simp only [Option.map_eq_some_iff] at hk
              obtain ⟨k2, hk2, rfl⟩ := hk
              obtain ⟨e1, e2, h1, h2, rfl⟩ := eqCells_split he
              obtain ⟨l1, l2⟩ := eqCells_len he
              rw [List.length_drop, List.length_append] at l1 l2
              rw [List.drop_drop] at h2
              rw [List.drop_drop] at h2
              have hp1 : f.offset + k1.length ≤ vs.size ∨ k1.length = 0 := by rw [hl.1]; omega
              have hp2 : f.offset + k1.length ≤ us.size ∨ k1.length = 0 := by rw [hm.1]; omega
              have hpos : k1.length ≠ 0 ∨ ag = true := by rcases hone with h | h; exact .inr h; exact .inl (by omega)
              have p1 : (part f.type vs f.offset).run P w = .ok (valOf ag (vs.extract f.offset (f.offset + k1.length))) w := by
                rcases hp1 with h | h
                · exact part_val hag hsz hone h
                · rcases hpos with h' | h'
                  · exact absurd h h'
                  · subst h'; simp [part, run_isAgg hag, run_sizeOf hsz, valOf]
              have p2 : (part f.type us f.offset).run P w = .ok (valOf ag (us.extract f.offset (f.offset + k1.length))) w := by
                rcases hp2 with h | h
                · exact part_val hag hsz hone h
                · rcases hpos with h' | h'
                  · exact absurd h h'
                  · subst h'; simp [part, run_isAgg hag, run_sizeOf hsz, valOf]
              have q := eqAll (d := d) n f.type k1 ag _ _ _ _ e1 hk1 hag (hl.cut f.offset k1.length) (hm.cut f.offset k1.length) h1
              rw [Op.eqFields]
              simp only [if_pos hn, Sem.run_bind, p1, p2, q, Result.andThen_ok]
              cases e1 with
              | false => simp
              | true => simpa using ih _ _ e2 hk2 h2
            · cases hk
        exact row fs.toList 0 ks e hk (by simpa using he)
    · cases hk
theorem x_eqs (hI : Inv G w0 S0 T g μ a w) {ng : Bool} {t yt : TypeId} {x y : Operand} {fs : Array Field} {ks : List Nat} (ht : P.underlying t = some (.struct fs)) (hk : eqKinds P 20 t = some ks) (hgd : P.eqGuardType P.depth t = false)
    (ho : o.op = .binOp (if ng then .neq else .eql) t x y yt) (hd : denX call G T g0 d j (.eqs ng ks (cX x) (cX y)) = some r) : XRes P (Φx w0 S0 g μ w r) o a w := by
  have hx := hI.ev x
  have hy := hI.ev y
  simp only [denX] at hd
  split at hd
  · rename_i l m hu hv
    rw [hu] at hx; rw [hv] at hy
    simp only [Option.map_eq_some_iff] at hd
    obtain ⟨e, he, rfl⟩ := hd
    obtain ⟨vs, h1, h2, h3⟩ := hx
    obtain ⟨us, h4, h5, h6⟩ := hy
    have hag : aggT P t = some true := by simp [aggT, ht]
    have heq := eqAll (P := P) (w := w) (d := 9980) 20 t ks true l m vs us e hk hag ⟨h2, fun j c x hc hx => (h3 j c x hc hx).1⟩ ⟨h5, fun j c x hc hx => (h6 j c x hc hx).1⟩ he
    have heq : (Op.equal t (.agg vs) (.agg us)).run P w = .ok e w := heq
    have hg : ∀ op, (eqGuard op t x y (.agg vs) (.agg us)).run P w = .ok () w := by
      intro op
      unfold eqGuard
      rw [Sem.run_ite]
      generalize (!_ : Bool) = q
      cases q
      · simp [hgd, run_program]
      · rfl
    refine .pure hI (y := .bool (e != ng)) ?_ (LRep.v_mk rfl)
    cases ng
    · simp [execOp, ho, h1, h4, hg, binOp, heq]
    · simp [execOp, ho, h1, h4, hg, binOp, heq]
  · cases hd
theorem x_mm (hI : Inv G w0 S0 T g μ a w) {mx : Bool} {x y : Operand} {c : Go.Call} (ho : o.op = .call c) (hc : c.callee = .builtin (if mx then .max else .min)) (ha : c.args.toList = [x, y]) (hd : denX call G T g0 d j (.mm mx (cX x) (cX y)) = some r) : XRes P (Φx w0 S0 g μ w r) o a w := by
  have hx := hI.ev x
  have hy := hI.ev y
  simp only [denX] at hd
  split at hd
  · rename_i u v hu hv
    rw [hu] at hx; rw [hv] at hy
    simp only [Option.map_eq_some_iff] at hd
    obtain ⟨z, hz, rfl⟩ := hd
    have ha' : c.args = #[x, y] := by cases hh : c.args; simp_all
    unfold mmV at hz
    split at hz
    · split at hz
      · rename_i hk
        subst hk
        cases hz
        refine .pure hI ?_ (LRep.v_mk rfl)
        simp [execOp, ho, resolve, hc, ha', invoke, hx.v_inv, hy.v_inv, builtin, Builtin.max_, Builtin.max2]
      · cases hz
    · split at hz
      · rename_i hk
        subst hk
        cases hz
        refine .pure hI ?_ (LRep.v_mk rfl)
        simp [execOp, ho, resolve, hc, ha', invoke, hx.v_inv, hy.v_inv, builtin, Builtin.min_, Builtin.min2]
      · cases hz
    · cases hz
  · cases hd
theorem x_cvu (hI : Inv G w0 S0 T g μ a w) (hg0 : ∀ k x, g0 k = some x → ∃ x', g k = some x' ∧ Le x x') {s t : TypeId} {ts : List TypeId} {x : Operand} (ho : o.op = .convert s t x) (hd : denX call G T g0 d j (.cvu ts (cX x)) = some r)
    (hr : ∀ (b : Nat) (T : TypeId), ts.contains T = true → w.shape? b = some (T, 2) → (convert s t (.pointer (some ⟨b, 0, none⟩))).run P w = .ok (.pointer (some ⟨b, 0, none⟩)) w) : XRes P (Φx w0 S0 g μ w r) o a w := by
  have hx := hI.ev x
  simp only [denX] at hd
  split at hd
  · rename_i k he
    rw [he] at hx
    split at hd
    · rename_i T c s' hk
      split at hd
      · rename_i hc
        cases hd
        obtain ⟨x', hx', hle⟩ := hg0 k _ hk
        obtain ⟨s1, rfl⟩ := hle.var
        obtain ⟨b, xs, ty, h1, h2, h3, _, h5⟩ := hI.ob k _ hx'
        obtain ⟨b', cs', s2, h6, h7, h8⟩ := hx
        have h1 : μ k = some (b, 0) := h1
        have h7 : μ k = some (b', 0) := h7
        rw [h1] at h7
        cases h7
        obtain rfl : T = ty := h5 T rfl
        have h2 : w.heap[b]? = some (.cells xs T (0, 0)) := h2
        have hsh : w.shape? b = some (T, 2) := by
          unfold World.shape?
          rw [h2]
          simp only [Option.some.injEq, Prod.mk.injEq, true_and]
          exact h3
        have hrun := hr b T hc hsh
        refine .pure hI (y := a.eval x) ?_ ⟨b, cs', s2, h6, h1, h8⟩
        rw [h8]
        simp [execOp, ho, h8, hrun]
      · cases hd
    · cases hd
  · cases hd
theorem x_cvu1 (hI : Inv G w0 S0 T g μ a w) (hg0 : ∀ k x, g0 k = some x → ∃ x', g k = some x' ∧ Le x x') {ow : Nat → Bool} {s t u : TypeId} {n : Nat} {x : Operand} (hs : P.underlying s = some (.pointer u)) (ht : P.underlying t = some .unsafePointer) (hn : szT P u = some n) (hn0 : n ≠ 0)
    (ho : o.op = .convert s t x) (hd : denX call G T g0 d j (.cvu (bset P ow u) (cX x)) = some r) : XRes P (Φx w0 S0 g μ w r) o a w := by
  refine x_cvu hI hg0 ho hd fun b T _ hsh => ?_
  unfold szT at hn
  obtain ⟨i, hi, rfl⟩ := Option.map_eq_some_iff.1 hn
  exact Lib.run_to_unsafe w ⟨b, 0, none⟩ hs ht hi hn0 hsh (show 0 < 2 by omega)
theorem x_cvu2 (hI : Inv G w0 S0 T g μ a w) (hg0 : ∀ k x, g0 k = some x → ∃ x', g k = some x' ∧ Le x x') {ow : Nat → Bool} {s t u : TypeId} {n : Nat} {x : Operand} (hs : P.underlying s = some .unsafePointer) (ht : P.underlying t = some (.pointer u)) (hn : szT P u = some n)
    (ho : o.op = .convert s t x) (hd : denX call G T g0 d j (.cvu (bset P ow u) (cX x)) = some r) : XRes P (Φx w0 S0 g μ w r) o a w := by
  refine x_cvu hI hg0 ho hd fun b T hc hsh => ?_
  unfold szT at hn
  obtain ⟨i, hi, rfl⟩ := Option.map_eq_some_iff.1 hn
  have hl : liesAt P P.depth T (2 / P.cellsOf T) 0 u 1 = true := by
    rw [List.contains_iff_mem] at hc
    unfold bset at hc
    have := (List.mem_filter.1 hc).2
    rw [Bool.and_eq_true] at this
    exact this.2
  exact Lib.run_from_unsafe w ⟨b, 0, none⟩ hs ht hi hsh hl
theorem x_eqp (hI : Inv G w0 S0 T g μ a w) {ng : Bool} {t yt e : TypeId} {x y : Operand} {n : Nat} (ht : P.underlying t = some (.pointer e)) (hn : szT P e = some n)
    (ho : o.op = .binOp (if ng then .neq else .eql) t x y yt) (hd : denX call G T g0 d j (.eqp ng (cX x) (cX y)) = some r) : XRes P (Φx w0 S0 g μ w r) o a w := by
  have hx := hI.ev x
  have hy := hI.ev y
  simp only [denX] at hd
  split at hd
  · rename_i k a1 k' b1 hxe hye
    rw [hxe] at hx
    rw [hye] at hy
    split at hd
    · rename_i hk
      obtain ⟨rfl, rfl⟩ := hk
      cases hd
      obtain ⟨b, _, _, _, h1, h2⟩ := hx
      obtain ⟨b', _, _, _, h3, h4⟩ := hy
      have h1 : μ k = some (b, 0) := h1
      have h3 : μ k = some (b', 0) := h3
      rw [h1] at h3
      cases h3
      unfold szT at hn
      obtain ⟨i, hi, rfl⟩ := Option.map_eq_some_iff.1 hn
      have hneq := Lib.run_neq_ptr_same (P := P) w ⟨b, a1, none⟩ ht hi
      have heq := Lib.run_eql_ptr_same' (P := P) w ⟨b, a1, none⟩ ht hi
      exact .pure hI (eqn_run ho ⟨by rw [h2]; simp, fun cs => by rw [h2]; simp⟩ (by rw [h2, h4]; exact heq) (by rw [h2, h4]; exact hneq)) (LRep.v_mk rfl)
    · cases hd
  · cases hd
end
end Go.Proofs.YtmhdapjmndfkgaaGreatDoor.Eng
namespace Go.Proofs.YtmhdapjmndfkgaaGreatDoor.Eng
open Go Go.RowKit
structure Wider (C C' : Ctx) : Prop where
  w : C'.w = C.w
  S : ∀ b i, C.S b i → C'.S b i
  g : ∀ k x, C.g k = some x → C'.g k = some x ∧ C'.μ k = C.μ k
section
variable {C C' : Ctx}
theorem Wider.frep (W : Wider C C') {c : AV} {x : Value} (h : FRep C.w C.S c x) : FRep C'.w C'.S c x := h.mono fun b i hs => ⟨W.S b i hs, by rw [W.w]⟩
theorem Wider.own (W : Wider C C') {k : Key} {b i : Nat} (h : Own C k b i) : Own C' k b i := by
  obtain ⟨base, len, sz, mu, shr, h1, h2, h3⟩ := h
  obtain ⟨h4, h5⟩ := W.g k _ h2
  exact ⟨base, len, sz, mu, shr, by rw [h5]; exact h1, h4, h3⟩
theorem Wider.lrep1 (W : Wider C C') {c : AV} {x : Value} (h : LRep1 C c x) : LRep1 C' c x := by
  cases c with
  | undef => trivial
  | nilsl => exact h
  | asl k es =>
    obtain ⟨len, sz, mu, shr, h1, h2, h3, h4, h5⟩ := h
    obtain ⟨h6, h7⟩ := W.g k _ h1
    refine ⟨len, sz, mu, shr, h6, h2, h3, h4, ?_⟩
    rcases h5 with ⟨h5, h8, h9⟩ | ⟨b, o, cap, X, h5, hk, h8, h9⟩
    · exact .inl ⟨h5, h8, fun h => by rw [h7]; exact h9 h⟩
    · refine .inr ⟨b, o, cap, X, h5, hk, fun h => ?_, fun i e j c he hc => ?_⟩
      · rw [h7, W.w]; exact h8 h
      · obtain ⟨a1, a2, a3, a4⟩ := h9 i e j c he hc
        exact ⟨a1.imp (W.S _ _) W.own, by rw [W.w]; exact a2, a3, W.frep a4⟩
  | ptr k o =>
    obtain ⟨b, cs, s, h1, h2, h3⟩ := h
    obtain ⟨h6, h7⟩ := W.g k _ h1
    exact ⟨b, cs, s, h6, by rw [h7]; exact h2, h3⟩
  | eptr k i o cs =>
    obtain ⟨b, q, len, sz, mu, shr, X, h1, h2, h3, h4⟩ := h
    obtain ⟨h6, h7⟩ := W.g k _ h1
    refine ⟨b, q, len, sz, mu, shr, X, h6, h2, fun h => by rw [h7]; exact h3 h, fun j c hc => ?_⟩
    obtain ⟨a1, a2, a3, a4⟩ := h4 j c hc
    exact ⟨a1.imp (W.S _ _) W.own, by rw [W.w]; exact a2, a3, W.frep a4⟩
  | bnil T => exact h
  | sub k lo n =>
    obtain ⟨b, o, cap, len, sz, mu, shr, h0, h1, h3⟩ := h
    obtain ⟨h6, h7⟩ := W.g k _ h1
    exact ⟨b, o, cap, len, sz, mu, shr, h0, h6, fun h => by rw [h7]; exact h3 h⟩
  | mp k => exact h
  | it k => exact h
  | agg cs => exact h
  | tup cs => exact h
  | own sz m es => exact h
  | v y => exact W.frep h
  | fsl es => exact W.frep h
  | fptr cs => exact W.frep h
  | fn f cs => exact W.frep h
  | iface t y => exact W.frep h
theorem Wider.lrepA (W : Wider C C') {c : AV} {x : Value} (h : LRepA C c x) : LRepA C' c x := by
  cases c with
  | agg cs => obtain ⟨vs, h1, h2, h3⟩ := h; exact ⟨vs, h1, h2, fun j c x hc hx => ⟨W.lrep1 (h3 j c x hc hx).1, (h3 j c x hc hx).2⟩⟩
  | _ => simp only [LRepA] at h ⊢; exact W.lrep1 h
theorem Wider.lrep (W : Wider C C') {c : AV} {x : Value} (h : LRep C c x) : LRep C' c x := by
  cases c with
  | tup cs => obtain ⟨vs, h1, h2, h3⟩ := h; exact ⟨vs, h1, h2, fun j c x hc hx => W.lrepA (h3 j c x hc hx)⟩
  | _ => simp only [LRep] at h ⊢; exact W.lrepA h
theorem Wider.obrep (W : Wider C C') {k : Key} {x : Ob} (hk : C.g k = some x) (h : ObRep C k x) : ObRep C' k x := by
  obtain ⟨_, h7⟩ := W.g k _ hk
  cases x with
  | var cs s =>
    obtain ⟨b, xs, T, h1, h2, h3, h4⟩ := h
    exact ⟨b, xs, T, by rw [h7]; exact h1, by rw [W.w]; exact h2, h3, fun i c x hc hx => ⟨W.lrep1 (h4.1 i c x hc hx).1, (h4.1 i c x hc hx).2⟩, h4.2⟩
  | tail len sz mu shr =>
    refine ⟨h.1, ?_⟩
    rw [h7, W.w]; exact h.2
  | map es => exact h.elim
  | siter s p => exact h.elim
end
def RRep (w : World) (S : Sb) (r : AV) (y : Value) (w' : World) : Prop := ∀ d j, ∃ ν : Key → Option (Nat × Nat),
  (∀ k b base, ν k = some (b, base) → (getO (impU d j r).2 k).isSome ∧ Mine w S b ∧ b < w'.heap.size) ∧
  (∀ k k' b i i', ν k = some (b, i) → ν k' = some (b, i') → k = k') ∧
  (∀ k x, getO (impU d j r).2 k = some x → ObRep (mkC w S w' (getO (impU d j r).2) ν) k x) ∧
  LRep (mkC w S w' (getO (impU d j r).2) ν) (impU d j r).1 y
def Enters (P : Program) (f : FuncId) : Prop := ∃ fn, P.funcs[f]? = some fn ∧ (fn.name == "runtime.NumGoroutine") = false ∧ fn.body.isSome
def CallOk (P : Program) (G : Nat → AV) (call : Call) : Prop := ∀ f args r, call f args = some r → Enters P f ∧
  ∀ (w : World) (S : Nat → Nat → Prop) (vargs : Array Value), (∀ b i, S b i → b < w.heap.size) → GlobOk G w S → vargs.size = args.length →
    (∀ (i : Nat) (c : AV) (x : Value), args[i]? = some c → vargs[i]? = some x → FRep w S c x) →
    Calls P f vargs w fun e w' => ∃ y, e = .returned y ∧ Below w.heap.size w w' ∧ RRep w (.fix S) r y w'
def packV : List Value → Value
  | [y] => y
  | ys => .tuple ys.toArray
structure Given (G : Nat → AV) (w : World) (S : Sb) (ls as : List AV) (vargs : Array Value) (sv : Nat → Value) (ν : Key → Option (Nat × Nat)) : Prop where
  lt : ∀ b i, S.S b i → b < w.heap.size
  glob : GlobOk G w S.S
  unlent : ∀ n cs, G n = .fptr cs → ¬ S.O n
  len : vargs.size = as.length
  pl : ∀ k b base, ν k = some (b, base) → (getO (lendIn ls) k).isSome ∧ S.O b ∧ b < w.heap.size
  inj : ∀ k k' b i i', ν k = some (b, i) → ν k' = some (b, i') → k = k'
  ob : ∀ k x, getO (lendIn ls) k = some x → ObRep (mkC w S w (getO (lendIn ls)) ν) k x
  arg : ∀ (i : Nat) (c : AV) (x : Value), as[i]? = some c → vargs[i]? = some x → LRep (mkC w S w (getO (lendIn ls)) ν) c x
  sl : ∀ (j : Nat) (c : AV), ls[j]? = some c → isAgg1 c = false → ∃ i : Nat, as[i]? = some (impA 1000000 (100 * j) c).1 ∧ vargs[i]? = some (sv j)
  sz : ∀ r ∈ ls, (cellsOf r).length ≤ 100
  fz : ∀ b i, S.O b → S.S b i → Stab w S w (getO (lendIn ls)) ν b i
def Roots (ν : Key → Option (Nat × Nat)) (b : Nat) : Prop := ∃ k i, k.1 = 1000001 ∧ ν k = some (b, i)
def Sb.less (S : Sb) (R : Nat → Prop) : Sb := ⟨fun b i => S.S b i ∧ ¬ R b, fun b => S.O b ∧ ¬ R b, S.R⟩
structure Back (w : World) (S : Sb) (ls : List AV) (sv : Nat → Value) (ν0 : Key → Option (Nat × Nat)) (l : List AV) (ys : List Value) (w' : World) (d j : Nat) (ν : Key → Option (Nat × Nat)) : Prop where
  pl : ∀ k b base, ν k = some (b, base) → (getO (lendBk d j ys.length l) k).isSome ∧ b < w'.heap.size ∧ ((k.1 = 1000001 ∧ ν0 k = some (b, base)) ∨ (k.1 = d ∧ Mine w (S.less (Roots ν0)) b))
  inj : ∀ k k' b i i', ν k = some (b, i) → ν k' = some (b, i') → k = k'
  ob : ∀ k x, getO (lendBk d j ys.length l) k = some x → ObRep (mkC w S w' (getO (lendBk d j ys.length l)) ν) k x
  fz : ∀ b i, S.O b → S.S b i → Stab w S w' (getO (lendBk d j ys.length l)) ν b i
  res : ∀ (m : Nat) (r : AV) (y : Value), l[m]? = some r → ys[m]? = some y → LRepA (mkC w S w' (getO (lendBk d j ys.length l)) ν) (impA d (j + 100 * m) r).1 y
  var : ∀ (i : Nat) (cs : List AV), ls[i]? = some (.agg cs) → ∃ cs', l[ys.length + i]? = some (.agg cs') ∧ ν (1000001, i) = ν0 (1000001, i)
  sl : ∀ (i : Nat) (c : AV), ls[i]? = some c → isAgg1 c = false → ∃ r, l[ys.length + i]? = some r ∧ ((∃ sz mu es mu0 es0, r = .own sz mu es ∧ c = .own sz mu0 es0) ∨ (∃ es, r = .fsl es) ∨ r = .undef) ∧ LRepA (mkC w S w' (getO (lendBk d j ys.length l)) ν) (impA d (j + 100 * (ys.length + i)) r).1 (sv i) ∧
    ∀ b o n cap xs T fr, sv i = .slice (some ⟨b, o, none⟩) n cap → w.heap[b]? = some (.cells xs T fr) → ∃ xs', w'.heap[b]? = some (.cells xs' T fr) ∧ xs'.size = xs.size
def CallOkL (P : Program) (G : Nat → AV) (call : Call) : Prop := ∀ f ls as r, call f (.tup ls :: as) = some r → Enters P f ∧
  ∀ (w : World) (S : Sb) (vargs : Array Value) (sv : Nat → Value) (ν0 : Key → Option (Nat × Nat)), Given G w S ls as vargs sv ν0 →
    Calls P f vargs w fun e w' => ∃ l ys, e = .returned (packV ys) ∧ r = .tup l ∧ l.length = ys.length + ls.length ∧ Bel S.O w w' ∧
      (∀ b i, S.O b → S.S b i → w'.cell? ⟨b, i, none⟩ = w.cell? ⟨b, i, none⟩) ∧ (∀ r ∈ l, (cellsOf r).length ≤ 100) ∧ ∀ d j, d < 1000000 → ∃ ν, Back w S ls sv ν0 l ys w' d j ν
def CallOk2 (P : Program) (G : Nat → AV) (call : Call) : Prop := CallOk P G call ∧ CallOkL P G call
section
variable {P : Program} {G : Nat → AV} {w0 w w' : World} {S0 : Sb} {T : List AV} {g : Key → Option Ob} {μ ν : Key → Option (Nat × Nat)} {a : Act} {o : Oper} {r : R} {call : Call} {g0 : Key → Option Ob} {d j : Nat}
theorem argsOf_run (hI : Inv G w0 S0 T g μ a w) {f : Operand → CX} (hf : ∀ x, LRep (mkC w0 S0 w g μ) (Eng.ev T G (f x)) (a.eval x)) : ∀ (xs : List Operand) (q : List AV × List Key), argsOf T G (xs.map f) = some q → (∀ k ∈ q.2, (g k).isSome) ∧
    ∀ {g' : Key → Option Ob} {μ' : Key → Option (Nat × Nat)}, Ext w0 S0 w g μ w g' μ' → (∀ k k' b i i', μ' k = some (b, i) → μ' k' = some (b, i') → k = k') → (∀ k ∈ q.2, ∀ y, g k = some y → g' k = some (sealObj y)) →
    q.1.length = xs.length ∧ ∀ (i : Nat) (c : AV) (x : Operand), q.1[i]? = some c → xs[i]? = some x → FRep w (Stab w0 S0 w g' μ') c (a.eval x)
  | [], q, h => by simp [argsOf] at h; subst h; exact ⟨fun k hk => (by cases hk), fun _ _ _ => ⟨rfl, fun i c x h => by simp at h⟩⟩
  | x :: xs, q, h => by
    simp only [List.map_cons, argsOf, Option.bind_eq_some_iff, Option.some.injEq] at h
    obtain ⟨p, hp, m, hm, rfl⟩ := h
    obtain ⟨h0, h⟩ := argsOf_run hI hf xs m hm
    refine ⟨fun k hk => ?_, fun E hinj hk => ?_⟩
    · rcases List.mem_append.1 hk with hk | hk
      · exact keys_old (hf x) k hk
      · exact h0 k hk
    · obtain ⟨h1, h2⟩ := h E hinj (fun k hk' => hk k (List.mem_append_right _ hk'))
      refine ⟨by simp [h1], fun i c y hc hy => ?_⟩
      cases i with
      | zero => simp at hc hy; subst hc hy; exact frz_rep E hinj hp (fun k hk' => hk k (List.mem_append_left _ hk')) (hf x)
      | succ i => exact h2 i c y hc hy
theorem stab_lt (hI : Inv G w0 S0 T g μ a w) {g' : Key → Option Ob} {μ' : Key → Option (Nat × Nat)} (b i : Nat) (h : Stab w0 S0 w g' μ' b i) : b < w.heap.size := by
  rcases h with ⟨h, _⟩ | ⟨_, h, _⟩
  · exact Nat.lt_of_lt_of_le h.1 hI.below.size
  · exact h
theorem gx_none {ks : List Key} {k : Key} (h : g k = none) : gx g [] ks k = none := by unfold gx; rw [h]; split <;> rfl
theorem gx_some {new : List (Key × Ob)} {ks : List Key} {k : Key} {y : Ob} (h : g k = some y) : gx g new ks k = gx g [] ks k := by unfold gx; rw [h]; rfl
theorem Inv.μx_none (hI : Inv G w0 S0 T g μ a w) : (μx g μ fun _ => none) = μ := by
  funext k
  unfold μx
  split
  · rfl
  · rename_i h
    cases hm : μ k with
    | none => rfl
    | some p => exact absurd (hI.pl k p.1 p.2 hm).1 h
theorem fx_own (hI : Inv G w0 S0 T g μ a w) {ks : List Key} (hks : ∀ k ∈ ks, (g k).isSome) {v : AV} {y : Value} (hb : Below w.heap.size w w')
    (hr : RRep w (.fix (Stab w0 S0 w (gx g [] ks) μ)) v y w') (hf : Fresh g (impU d j v).2) : Φx w0 S0 g μ w { x := (impU d j v).1, new := (impU d j v).2, seals := ks } y w' := by
  obtain ⟨ν, h1', h2, h3, h4⟩ := hr d j
  have h1 := fun k b base h => let ⟨a, b', c⟩ := h1' k b base h; (⟨a, b'.fix, c⟩ : _ ∧ w.heap.size ≤ b ∧ b < w'.heap.size)
  have hn : ∀ k x, getO (impU d j v).2 k = some x → g k = none := fun k x h => (hf k x (getO_mem h)).1
  have W : Wider (mkC w (.fix (Stab w0 S0 w (gx g [] ks) μ)) w' (getO (impU d j v).2) ν) (mkC w0 S0 w' (gx g (impU d j v).2 ks) (μx g μ ν)) := by
    have E := hI.gxE ks hb h1
    refine ⟨rfl, fun b i h => ?_, fun k x h => ?_⟩
    · rcases h with ⟨hlt, h⟩ | ⟨hge, hlt, h⟩
      · rcases h with ⟨h5, h6⟩ | ⟨h5, h6, h7⟩
        · exact .inl ⟨h5, h6⟩
        · refine .inr ⟨h5, Nat.lt_of_lt_of_le h6 hb.size, fun k base hk => ?_⟩
          unfold μx at hk
          split at hk
          · rename_i hs
            obtain ⟨y, hy⟩ := Option.isSome_iff_exists.1 hs
            rw [gx_some hy]
            exact h7 k base hk
          · have := (h1 k b base hk).2.1; omega
      · refine .inr ⟨.inl (Nat.le_trans hI.below.size hge.fix), hlt, fun k base hk => ?_⟩
        unfold μx at hk
        split at hk
        · have := (hI.pl k b base hk).2.2; have := hge.fix; omega
        · rename_i hs
          have hg : g k = none := by simpa using hs
          rw [gx_fresh hks hg]
          exact h k base hk
    · have hg := hn k x h
      exact ⟨(gx_fresh hks hg).trans h, by simp [mkC, μx, hg]⟩
  refine ⟨ν, hb, h1, h2, fun k x hg hx => ?_, W.lrep h4, hks⟩
  rw [gx_fresh hks hg] at hx
  exact W.obrep hx (h3 k x hx)
theorem dis1_rep {C C' : Ctx} (hw : C'.w = C.w) (hS : ∀ b i, C.S b i → C'.S b i) (hO : ∀ k b i, Own C k b i → C'.S b i) {c : AV} {d j : Nat} {x : Value} (h : LRep1 C (imp1 d j c).1 x) : LRep1 C' (dis1 c) x := by
  have F : ∀ {c : AV} {x : Value}, FRep C.w C.S c x → FRep C'.w C'.S c x := fun h => h.mono fun b i hs => ⟨hS b i hs, by rw [hw]⟩
  cases c with
  | own sz mu es =>
    obtain ⟨len, sz', mu', shr, h1, h2, h3, h4, h5⟩ := h
    show FRep _ _ _ _
    rcases h5 with ⟨rfl, rfl, _⟩ | ⟨b, o, cap, X, rfl, hk, h8, h9⟩
    · exact .nil
    · refine .sl X hk h4 (fun i e j c he hc => ?_) (fun i e j c he hc => F (h9 i e j c he hc).2.2.2)
      obtain ⟨a1, a2, a3, _⟩ := h9 i e j c he hc
      exact ⟨a1.elim (hS _ _) (hO _ _ _), by rw [hw]; exact a2, a3⟩
  | undef => trivial
  | nilsl => exact h
  | asl k es => trivial
  | ptr k o => trivial
  | eptr k i o cs => trivial
  | sub k l n => trivial
  | bnil T => exact h
  | mp k => trivial
  | it k => trivial
  | agg cs => exact h
  | tup cs => exact h
  | v y => exact F h
  | fsl es => exact F h
  | fptr cs => exact F h
  | fn f cs => exact F h
  | iface t y => exact F h
theorem impL_get (d : Nat) : ∀ (cs : List AV) (j i : Nat), (impL d j cs).1.length = cs.length ∧ ∀ c, cs[i]? = some c → (impL d j cs).1[i]? = some (imp1 d (j + i) c).1
  | [], j, i => ⟨rfl, fun c h => by simp at h⟩
  | x :: cs, j, i => by
    obtain ⟨h1, _⟩ := impL_get d cs (j + 1) i
    refine ⟨by simp [impL, h1], fun c h => ?_⟩
    cases i with
    | zero => simp at h; subst h; simp [impL]
    | succ i =>
      have := (impL_get d cs (j + 1) i).2 c (by simpa using h)
      simp only [impL, List.getElem?_cons_succ, this]
      rw [show j + 1 + i = j + (i + 1) by omega]
theorem impT_get (d : Nat) : ∀ (cs : List AV) (j i : Nat), (impT d j cs).1.length = cs.length ∧ ∀ c, cs[i]? = some c → (impT d j cs).1[i]? = some (impA d (j + 100 * i) c).1
  | [], j, i => ⟨rfl, fun c h => by simp at h⟩
  | x :: cs, j, i => by
    obtain ⟨h1, _⟩ := impT_get d cs (j + 100) i
    refine ⟨by simp [impT, h1], fun c h => ?_⟩
    cases i with
    | zero => simp at h; subst h; simp [impT]
    | succ i =>
      have := (impT_get d cs (j + 100) i).2 c (by simpa using h)
      simp only [impT, List.getElem?_cons_succ, this]
      rw [show j + 100 + 100 * i = j + 100 * (i + 1) by omega]
section
variable {C C' : Ctx}
theorem disA_rep (hw : C'.w = C.w) (hS : ∀ b i, C.S b i → C'.S b i) (hO : ∀ k b i, Own C k b i → C'.S b i) {c : AV} {d j : Nat} {x : Value} (h : LRepA C (impA d j c).1 x) : LRepA C' (disA c) x := by
  cases c with
  | agg cs =>
    obtain ⟨vs, h1, h2, h3⟩ := h
    rw [(impL_get d cs j 0).1] at h2
    refine ⟨vs, h1, by rw [h2]; simp, fun i c' x hi hx => ?_⟩
    rw [List.getElem?_map, Option.map_eq_some_iff] at hi
    obtain ⟨c, hc, rfl⟩ := hi
    obtain ⟨h4, h5⟩ := h3 i _ x ((impL_get d cs j i).2 c hc) hx
    exact ⟨dis1_rep hw hS hO h4, h5⟩
  | own sz mu es => simp only [impA, disA] at h ⊢; exact LRepA.of1 rfl (dis1_rep (c := .own sz mu es) (d := d) (j := j) hw hS hO h)
  | tup vs => exact h.elim
  | _ => simp only [impA, disA] at h ⊢; exact LRepA.of1 rfl (dis1_rep (d := d) (j := j) hw hS hO h)
theorem dis_rep (hw : C'.w = C.w) (hS : ∀ b i, C.S b i → C'.S b i) (hO : ∀ k b i, Own C k b i → C'.S b i) {c : AV} {d j : Nat} {x : Value} (h : LRep C (impU d j c).1 x) : LRep C' (dis c) x := by
  cases c with
  | tup cs =>
    obtain ⟨vs, h1, h2, h3⟩ := h
    rw [(impT_get d cs j 0).1] at h2
    refine ⟨vs, h1, by rw [h2]; simp, fun i c' x hi hx => ?_⟩
    rw [List.getElem?_map, Option.map_eq_some_iff] at hi
    obtain ⟨c, hc, rfl⟩ := hi
    exact disA_rep hw hS hO (h3 i _ x ((impT_get d cs j i).2 c hc) hx)
  | agg cs => exact disA_rep (c := .agg cs) (d := d) (j := j) hw hS hO h
  | own sz mu es => exact LRepA.lr (disA_rep (c := .own sz mu es) (d := d) (j := j) hw hS hO (by simp only [impU, impA] at h; exact h))
  | _ => simp only [dis]; exact LRepA.lr (disA_rep (d := d) (j := j) hw hS hO h)
end
theorem fx_dis (hI : Inv G w0 S0 T g μ a w) {ks : List Key} (hks : ∀ k ∈ ks, (g k).isSome) {v : AV} {y : Value} (hb : Below w.heap.size w w')
    (hr : RRep w (.fix (Stab w0 S0 w (gx g [] ks) μ)) v y w') : Φx w0 S0 g μ w { x := dis v, seals := ks } y w' := by
  obtain ⟨ν, h1', h2, h3, h4⟩ := hr 0 0
  have h1 := fun k b base h => let ⟨a, b', c⟩ := h1' k b base h; (⟨a, b'.fix, c⟩ : _ ∧ w.heap.size ≤ b ∧ b < w'.heap.size)
  refine ⟨fun _ => none, hb, fun k b base h => (by cases h), fun k k' b i i' h => (by cases h), fun k x hg hx => ?_, ?_, hks⟩
  · rw [gx_none hg] at hx; cases hx
  · have E := hI.gxE (new := []) ks hb (ν := fun _ => none) (fun k b base h => by cases h)
    have hS : ∀ b i, b < w'.heap.size → w.heap.size ≤ b → Stab w0 S0 w' (gx g [] ks) (μx g μ fun _ => none) b i := by
      intro b i hlt hge
      refine .inr ⟨.inl (Nat.le_trans hI.below.size hge), hlt, fun k base hk => ?_⟩
      rw [hI.μx_none] at hk
      have := (hI.pl k b base hk).2.2; omega
    refine dis_rep (C := mkC w (.fix (Stab w0 S0 w (gx g [] ks) μ)) w' (getO (impU 0 0 v).2) ν) (C' := mkC w0 S0 w' (gx g [] ks) (μx g μ fun _ => none)) rfl (fun b i h => ?_) (fun k b i h => ?_) h4
    · rcases h with ⟨hlt, h⟩ | ⟨hge, hlt, h⟩
      · rcases h with ⟨h5, h6⟩ | ⟨h5, h6, h7⟩
        · exact .inl ⟨h5, h6⟩
        · exact .inr ⟨h5, Nat.lt_of_lt_of_le h6 hb.size, fun k base hk => h7 k base (by rw [hI.μx_none] at hk; exact hk)⟩
      · exact hS b i hlt hge.fix
    · obtain ⟨base, len, sz, mu, shr, h5, _⟩ := h
      obtain ⟨_, h6, h7⟩ := h1 k b base h5
      exact hS b i h7 h6
theorem fx_imp (hI : Inv G w0 S0 T g μ a w) {own : Bool} {ks : List Key} (hks : ∀ k ∈ ks, (g k).isSome) {v : AV} {y : Value} (hb : Below w.heap.size w w')
    (hr : RRep w (.fix (Stab w0 S0 w (gx g [] ks) μ)) v y w') (hf : Fresh g (imp own d j v).2) : Φx w0 S0 g μ w { x := (imp own d j v).1, new := (imp own d j v).2, seals := ks } y w' := by
  cases own
  · exact fx_dis hI hks hb hr
  · exact fx_own hI hks hb hr hf
theorem run_callFunc {f : FuncId} {args : Array Value} (h : Enters P f) : (callFunc f args).run P w = .ok (.enter f args) w := by
  obtain ⟨fn, h1, h2, h3⟩ := h
  have h3' : fn.body.isNone = false := by cases hb : fn.body <;> simp_all
  unfold callFunc
  simp only [program, Sem.run_bind, Sem.run, Result.andThen_ok, h1]
  rw [if_neg (by rw [h2]; simp), if_neg (by rw [h3']; simp)]
  rfl
theorem nes_run {f : FuncId} {fn : Func} (hf : P.funcs[f]? = some fn) (h : fn.name = "internal/abi.NoEscape" ∧ fn.origin = "" ∧ fn.body.isNone = true) (x : Value) : (callFunc f #[x]).run P w = .ok (.value x) w := by
  obtain ⟨h1, h2, h3⟩ := h
  have e1 : Extern.findNext fn = none := by
    unfold Extern.findNext
    rw [h1, h2]
    have a1 : Extern.allNextRows.lookup "internal/abi.NoEscape" = none := by kernel_rfl
    have a2 : Extern.allNextRows.lookup "" = none := by kernel_rfl
    simp only [a1, a2, Option.map_none]
    rfl
  have e2 : Extern.find fn = some Extern.AbiNoEscape.same := by
    unfold Extern.find
    rw [h1, h2]
    have a1 : Extern.allGenericRows.lookup "internal/abi.NoEscape" = none := by kernel_rfl
    have a2 : Extern.allTypedRows.lookup "internal/abi.NoEscape" = none := by kernel_rfl
    have a3 : Extern.allRows.lookup "internal/abi.NoEscape" = some Extern.AbiNoEscape.same := by kernel_rfl
    simp only [a1, a2, a3, Option.map_none]
    rfl
  rw [run_callFunc_extern hf (by rw [h1]; decide) h3 e1 e2, Lib.run_noEscape]
  rfl
theorem x_nes (hI : Inv G w0 S0 T g μ a w) {op : COp} {c : Go.Call} {f : FuncId} (hcal : c.callee = .value (.func f)) (ho : o.op = .call c) (hc : cNes P f c = some op) (hd : denX call G T g0 d j op = some r) : XRes P (Φx w0 S0 g μ w r) o a w := by
  unfold cNes at hc
  split at hc
  · rename_i fn hf
    split at hc
    · rename_i h
      split at hc
      · rename_i x ha
        cases hc
        simp only [denX] at hd
        cases hd
        have ha' : c.args = #[x] := by cases hh : c.args; simp_all
        refine .pure hI (y := a.eval x) ?_ (hI.ev x)
        have hr := nes_run (w := w) hf h (a.eval x)
        simp [execOp, ho, resolve, hcal, ha', Act.eval, Deferred.ofValue, invoke]
        simpa [Act.eval] using hr
      · cases hc
    · cases hc
  · cases hc
theorem x_callAny (hcall : CallOk P G call) (hI : Inv G w0 S0 T g μ a w) {fx : Operand → CX} (hfx : ∀ x, LRep (mkC w0 S0 w g μ) (Eng.ev T G (fx x)) (a.eval x)) {own : Bool} {f : FuncId} {xs : Array Operand} {caps : List AV} {vs : Array Value} {q : List AV × List Key} {v : AV}
    (hq : argsOf T G (xs.toList.map fx) = some q) (hv : call f (q.1 ++ caps) = some v) (hcs : vs.size = caps.length)
    (hcaps : ∀ (i : Nat) (c : AV) (x : Value), caps[i]? = some c → vs[i]? = some x → FRep w (Stab w0 S0 w g μ) c x)
    (hrun : (callFunc f (xs.map a.eval ++ vs)).run P w = .ok (.enter f (xs.map a.eval ++ vs)) w → (execOp a.eval o).run P w = .ok (.enter f (xs.map a.eval ++ vs)) w)
    (hf : Fresh g (imp own d j v).2) : XRes P (Φx w0 S0 g μ w { x := (imp own d j v).1, new := (imp own d j v).2, seals := q.2 }) o a w := by
  obtain ⟨hen, hc⟩ := hcall f _ v hv
  obtain ⟨hks, hargs⟩ := argsOf_run hI hfx xs.toList q hq
  have E := hI.gxE (new := []) q.2 (Below.refl _ _) (ν := fun _ => none) (fun k b base h => by cases h)
  have i1 := hI.μxInj (w' := w) (new := []) (ν := fun _ => none) (fun k b base h => by cases h) (fun k k' b i i' h => by cases h)
  have hk1 : ∀ k ∈ q.2, ∀ y, g k = some y → gx g [] q.2 k = some (sealObj y) := fun k hk y hy => by simp [gx, hy, hk]
  rw [hI.μx_none] at E i1
  obtain ⟨h1, h2⟩ := hargs E i1 hk1
  refine .inr ⟨f, xs.map a.eval ++ vs, hrun (run_callFunc hen), ?_⟩
  refine (hc w (Stab w0 S0 w (gx g [] q.2) μ) (xs.map a.eval ++ vs) (fun b i h => stab_lt hI b i h) ⟨fun n => (hI.gl n).imp id fun h => E.frep h, hI.laid.bel hI.unlent hI.below⟩ (by simp [h1, hcs]) fun i c x hi hx => ?_).mono fun e w' ⟨y, he, hb, hr⟩ => ⟨y, he, fx_imp hI hks hb hr hf⟩
  by_cases hlt : i < q.1.length
  · rw [List.getElem?_append_left hlt] at hi
    have hlt' : i < xs.size := by rw [← Array.length_toList, ← h1]; exact hlt
    rw [Array.getElem?_append_left (by simpa using hlt')] at hx
    have hxi : xs.toList[i]? = some xs[i] := by rw [Array.getElem?_toList]; exact Array.getElem?_eq_getElem hlt'
    have := h2 i c _ hi hxi
    simp [hlt'] at hx
    rw [← hx]; exact this
  · have hsz : (xs.map a.eval).size = q.1.length := by rw [h1]; simp
    rw [List.getElem?_append_right (by omega)] at hi
    rw [Array.getElem?_append_right (by omega), hsz] at hx
    exact E.frep (hcaps _ c x hi hx)
end
end Go.Proofs.YtmhdapjmndfkgaaGreatDoor.Eng
namespace Go.Proofs.YtmhdapjmndfkgaaGreatDoor.Eng
open Go Go.RowKit
section
variable {P : Program} {G : Nat → AV} {w0 w w' : World} {S0 : Sb} {T : List AV} {g : Key → Option Ob} {μ ν : Key → Option (Nat × Nat)} {a : Act} {o : Oper} {r : R} {call : Call} {g0 : Key → Option Ob} {d j : Nat} {op : COp} {own : Nat → Bool}
theorem cXn_rep (hI : Inv G w0 S0 T g μ a w) (b : Bool) (x : Operand) : LRep (mkC w0 S0 w g μ) (Eng.ev T G (cXn b x)) (a.eval x) := by
  unfold cXn
  split
  · cases b
    · exact (rfl : _ = _)
    · exact FRep.v rfl
  · exact hI.ev x
theorem x_call (hcall : CallOk P G call) (hI : Inv G w0 S0 T g μ a w) {ow b : Bool} {c : Go.Call} {f : FuncId} (hc : c.callee = .value (.func f)) (ho : o.op = .call c)
    (hd : denX call G T g0 d j (.call ow f (c.args.toList.map (cXn b))) = some r) (hf : Fresh g r.new) : XRes P (Φx w0 S0 g μ w r) o a w := by
  simp only [denX, Option.bind_eq_some_iff, Option.some.injEq] at hd
  obtain ⟨q, hq, v, hv, rfl⟩ := hd
  refine x_callAny (caps := []) (vs := #[]) hcall hI (cXn_rep hI b) hq (by rw [List.append_nil]; exact hv) rfl (fun i c x h => by simp at h) (fun h => ?_) hf
  simp only [Array.append_empty] at h ⊢
  simp [execOp, ho, resolve, hc, Act.eval, Deferred.ofValue, invoke, h]
theorem x_cal (hcall : CallOk P G call) (hI : Inv G w0 S0 T g μ a w) {ow : Bool} {c : Go.Call} {x : Operand} (hc : c.callee = .value x) (ho : o.op = .call c)
    (hd : denX call G T g0 d j (.cal ow (cX x) (c.args.toList.map cX)) = some r) (hf : Fresh g r.new) : XRes P (Φx w0 S0 g μ w r) o a w := by
  have hx := hI.ev x
  simp only [denX] at hd
  split at hd
  · rename_i f caps h
    rw [h] at hx
    simp only [Option.bind_eq_some_iff, Option.some.injEq] at hd
    obtain ⟨q, hq, v, hv, rfl⟩ := hd
    obtain ⟨vs, h1, h2, h3⟩ := hx.fn_inv
    refine x_callAny (caps := caps) (vs := vs) hcall hI hI.ev hq hv h2 h3 (fun h => ?_) hf
    simp [execOp, ho, resolve, hc, h1, Deferred.ofValue, invoke, h]
  · cases hd
theorem X_sound (hcall : CallOk P G call) (hI : Inv G w0 S0 T g μ a w) (hg0 : ∀ k x, g0 k = some x → ∃ x', g k = some x' ∧ Le x x') (hc : cOp P own o = some op) (hx : isX op = true)
    (hd : denX call G T g0 d j op = some r) (hf : Fresh g r.new) : XRes P (Φx w0 S0 g μ w r) o a w := by
  unfold cOp at hc
  split at hc
  · 
    rename_i x ho; cases hc; exact x_mv hI (.inl ho) hd
  · 
    rename_i x ho
    split at hc
    · split at hc
      · simp only [Option.map_eq_some_iff] at hc
        obtain ⟨n, hn, rfl⟩ := hc
        exact x_nil ho hd hf
      · cases hc
    · cases hc; exact x_mv hI (.inr ho) hd
  · rename_i ho; cases hc; exact x_pick hI ho hd
  · 
    rename_i t ho
    simp only [Option.map_eq_some_iff] at hc
    obtain ⟨z, hz, rfl⟩ := hc
    exact x_alloc hI hz ho hd hf
  · 
    rename_i t x ho
    simp only [Option.map_eq_some_iff] at hc
    obtain ⟨n, hn, rfl⟩ := hc
    exact x_box hI ho hd hf
  · 
    rename_i t ps ho; exact x_build hI hc ho hd
  · 
    rename_i t n ps ho
    split at hc
    · rename_i e hu
      simp only [Option.bind_eq_some_iff] at hc
      obtain ⟨s, hs, z, hz, hc⟩ := hc
      split at hc
      · rename_i hh
        cases hc
        refine x_bsl hI hu hs hh.2.1 hh.1 ?_ ho hd hf
        split at hz
        · rename_i hn; cases hz; exact .inl ⟨hn, rfl⟩
        · rename_i hn; exact .inr ⟨hz, hh.2.2.resolve_left hn⟩
      · cases hc
    · cases hc
  · 
    rename_i t x ho
    simp only [Option.bind_eq_some_iff] at hc
    obtain ⟨ag, hg, n, hn, hc⟩ := hc
    split at hc
    · cases hc; exact x_ld hI hg0 hg hn ho hd
    · cases hc
  · 
    simp only [Option.map_eq_some_iff] at hc
    obtain ⟨n, hn, rfl⟩ := hc
    cases hx
  · rename_i ho; cases hc; exact x_nck hI ho hd
  · 
    rename_i bop t x y yt ho
    unfold cBin at hc
    split at hc
    · cases hc; exact x_bin hI ho hd
    · cases hc; exact x_bin hI ho hd
    · rename_i hu
      split at hc
      · cases hc; exact x_eqb (ng := false) hI hu ho hd
      · cases hc; exact x_eqb (ng := true) hI hu ho hd
      · cases hc
    · rename_i e hu
      split at hc
      · cases hc; exact x_eqn0 (ng := false) hI hu ho hd
      · cases hc; exact x_eqn0 (ng := true) hI hu ho hd
      · cases hc
    · rename_i ps rs v hu
      split at hc
      · cases hc; exact x_eqn1 (ng := false) hI hu ho hd
      · cases hc; exact x_eqn1 (ng := true) hI hu ho hd
      · cases hc
    · rename_i e hu
      split at hc
      · cases hc; exact x_eqn2 (ng := false) hI hu ho hd
      · cases hc; exact x_eqn2 (ng := true) hI hu ho hd
      · simp only [Option.map_eq_some_iff] at hc
        obtain ⟨n, hn, rfl⟩ := hc
        exact x_eqp (ng := false) hI hu hn ho hd
      · simp only [Option.map_eq_some_iff] at hc
        obtain ⟨n, hn, rfl⟩ := hc
        exact x_eqp (ng := true) hI hu hn ho hd
      · cases hc
    · rename_i fs hu
      split at hc
      · cases hc
      · rename_i hgd
        have hgd : P.eqGuardType P.depth t = false := by simpa using hgd
        split at hc
        · simp only [Option.map_eq_some_iff] at hc
          obtain ⟨ks, hk, rfl⟩ := hc
          exact x_eqs (ng := false) hI hu hk hgd ho hd
        · simp only [Option.map_eq_some_iff] at hc
          obtain ⟨ks, hk, rfl⟩ := hc
          exact x_eqs (ng := true) hI hu hk hgd ho hd
        · cases hc
    · cases hc
  · rename_i t x ho; cases hc; exact x_not hI ho hd
  · rename_i t x ho; cases hc; exact x_neg hI ho hd
  · 
    rename_i s t x ho
    split at hc
    · rename_i ks k hs ht; cases hc; exact x_cvi hI hs ht ho hd
    · rename_i e hs ht
      split at hc
      · rename_i he; cases hc; exact x_b2s hI hs he ht ho hd
      · cases hc
    · rename_i u hs ht
      simp only [Option.bind_eq_some_iff] at hc
      obtain ⟨n, hn, hc⟩ := hc
      split at hc
      · cases hc
      · rename_i hn0
        cases hc
        exact x_cvu1 hI hg0 hs ht hn hn0 ho hd
    · rename_i u hs ht
      simp only [Option.map_eq_some_iff] at hc
      obtain ⟨n, hn, rfl⟩ := hc
      exact x_cvu2 hI hg0 hs ht hn ho hd
    · cases hc
  · 
    rename_i t x ho
    split at hc
    · cases hc
    · cases hc
    · rename_i h1 h2
      cases hc
      exact x_mki hI (fun ms h => h1 ms h) (by cases hu : P.underlying t with | none => exact absurd hu h2 | some _ => rfl) ho hd
  · 
    rename_i x xt t ok ho
    split at hc
    · cases hc
    · cases hc
    · rename_i h1 h2
      simp only [Option.map_eq_some_iff] at hc
      obtain ⟨z, hz, rfl⟩ := hc
      exact x_tas hI (fun ms h => h1 ms h) (by cases hu : P.underlying t with | none => exact absurd hu h2 | some _ => rfl) hz ho hd
  · 
    rename_i f first caps ho
    split at hc
    · rename_i hh; cases hc; exact x_mkf hI hg0 hh ho hd
    · cases hc
  · 
    rename_i t n c ho
    split at hc
    · rename_i e hu
      simp only [Option.bind_eq_some_iff] at hc
      obtain ⟨s, hs, b, hb, z, hz, hc⟩ := hc
      split at hc
      · rename_i hh; cases hc; exact x_mks hI hu hs hb hh.2.2 hz hh.1 ho hd hf
      · cases hc
    · cases hc
  · 
    rename_i t x lo hi mx ho
    unfold cSlice at hc
    split at hc
    · cases hc
    · split at hc
      · rename_i hu; cases hc; exact x_sls hI hu ho hd
      · rename_i e hu
        split at hc
        · simp only [Option.map_eq_some_iff] at hc
          obtain ⟨s, hs, rfl⟩ := hc
          exact x_slv hI hu hs ho hd
        · simp only [Option.map_eq_some_iff] at hc
          obtain ⟨s, hs, rfl⟩ := hc
          exact x_slc hI hu hs ho hd
      · cases hc
  · 
    rename_i s x f ho
    split at hc
    · rename_i fs hu
      simp only [Option.bind_eq_some_iff] at hc
      obtain ⟨fd, hfd, n, hn, hc⟩ := hc
      split at hc
      · cases hc
      · rename_i h0; cases hc; exact x_fad hI hu hfd hn h0 ho hd
    · cases hc
  · 
    rename_i s x f ho
    split at hc
    · rename_i fs hu
      simp only [Option.bind_eq_some_iff] at hc
      obtain ⟨fd, hfd, ag, hg, n, hn, hc⟩ := hc
      split at hc
      · cases hc; exact x_fld hI hu hfd hg hn ho hd
      · cases hc
    · cases hc
  · 
    rename_i t x i ho
    split at hc
    · rename_i e hu
      simp only [Option.map_eq_some_iff] at hc
      obtain ⟨s, hs, rfl⟩ := hc
      exact x_ias hI hu hs ho hd
    · rename_i n e hu
      simp only [Option.map_eq_some_iff] at hc
      obtain ⟨s, hs, rfl⟩ := hc
      exact x_iaa hI hu hs ho hd
    · cases hc
  · 
    rename_i t x i ho
    split at hc
    · rename_i hu; cases hc; exact x_ixs hI hu ho hd
    · rename_i n e hu
      simp only [Option.bind_eq_some_iff] at hc
      obtain ⟨ag, hg, s, hs, hc⟩ := hc
      split at hc
      · cases hc; exact x_ixa hI hu hg hs ho hd
      · cases hc
    · cases hc
  · rename_i x i ho; cases hc; exact x_ext hI ho hd
  · 
    rename_i c ho
    unfold cCall at hc
    split at hc
    · rename_i f hcal
      split at hc
      · exact x_nes hI hcal ho hc hd
      split at hc
      · cases hc; cases hx
      · cases hc; exact x_call hcall hI hcal ho hd hf
    · rename_i x hcal; cases hc; exact x_cal hcall hI hcal ho hd hf
    · rename_i hcal
      split at hc
      · rename_i x ha hu
        cases hc
        simp only [Option.bind_eq_some_iff] at hu
        obtain ⟨t, ht, hu⟩ := hu
        exact x_lenS hI ho hcal ha ht hu hd
      · rename_i x e ha hu
        cases hc
        simp only [Option.bind_eq_some_iff] at hu
        obtain ⟨t, ht, hu⟩ := hu
        exact x_lenA hI ho hcal ha ht hu hd
      · cases hc
    · 
      split at hc
      · split at hc
        · simp only [Option.bind_eq_some_iff] at hc
          obtain ⟨s, hs, b, hb, z, hz, hc⟩ := hc
          split at hc
          · split at hc
            · split at hc <;> (cases hc; cases hx)
            · cases hc; cases hx
            · cases hc
          · cases hc
        · cases hc
      · cases hc
    · rename_i hcal
      split at hc
      · rename_i x y ha
        cases hc
        exact x_mm (mx := false) hI ho hcal ha hd
      · cases hc
    · rename_i hcal
      split at hc
      · rename_i x y ha
        cases hc
        exact x_mm (mx := true) hI ho hcal ha hd
      · cases hc
    · cases hc
  · cases hc
end
end Go.Proofs.YtmhdapjmndfkgaaGreatDoor.Eng
