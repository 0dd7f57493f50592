/- The engine: small code, what it comes to, and that a program's calls come to it; part 3. No condition. -/
import Derived.Test.YtmhdapjmndfkgaaGreatDoorEng2
import Derived.Deep.AppendSrc
import Derived.Laws.CopyRow
import Derived.Laws.Sem
set_option linter.unusedVariables false
set_option linter.unusedSimpArgs false
namespace Go.Proofs.YtmhdapjmndfkgaaGreatDoor.Eng
open Go Go.RowKit
theorem oneCell_eq (v : Value) : v.oneCell' = v.oneCell := by cases v <;> rfl
section
variable {P : Program} {G : Nat → AV} {w0 w w' : World} {S0 : Sb} {T : List AV} {g g' : Key → Option Ob} {μ μ' ν : Key → Option (Nat × Nat)} {a : Act} {o : Oper} {r : R} {call : Call} {g0 : Key → Option Ob} {d j : Nat} {op : COp} {ow : Nat → Bool} {f : AV → AV}
structure Mut (f : AV → AV) (w0 : World) (S0 : Sb) (w : World) (g : Key → Option Ob) (μ : Key → Option (Nat × Nat)) (k : Key) (w' : World) (g' : Key → Option Ob) (μ' : Key → Option (Nat × Nat)) : Prop where
  below : Bel S0.O w0 w'
  size : w.heap.size ≤ w'.heap.size
  S : ∀ b i, Stab w0 S0 w g μ b i → Stab w0 S0 w' g' μ' b i ∧ w'.cell? ⟨b, i, none⟩ = w.cell? ⟨b, i, none⟩
  g : ∀ k', k' ≠ k → g' k' = (g k').map (mapO f) ∧ μ' k' = μ k'
  heap : ∀ k' b base, k' ≠ k → μ k' = some (b, base) → w'.heap[b]? = w.heap[b]?
  dom : (g' k).isSome
  pl : ∀ b base, μ' k = some (b, base) → Mine w0 S0 b ∧ b < w'.heap.size ∧ ∀ k' i, k' ≠ k → μ k' ≠ some (b, i)
  root : ∀ b, S0.R k b → (∃ cs s, g' k = some (.var cs s)) ∧ μ' k = some (b, 0)
  tag : ∀ c T, f c = .bnil T → c = .bnil T
theorem Mut.frep {k : Key} (M : Mut f w0 S0 w g μ k w' g' μ') {c : AV} {x : Value} (h : FRep w (Stab w0 S0 w g μ) c x) : FRep w' (Stab w0 S0 w' g' μ') c x := h.mono M.S
theorem Mut.own {k k' : Key} (M : Mut f w0 S0 w g μ k w' g' μ') (hk : k' ≠ k) {b i : Nat} (h : Own (mkC w0 S0 w g μ) k' b i) : Own (mkC w0 S0 w' g' μ') k' b i ∧ w'.cell? ⟨b, i, none⟩ = w.cell? ⟨b, i, none⟩ := by
  obtain ⟨base, len, sz, mu, shr, h1, h2, h3⟩ := h
  obtain ⟨h4, h5⟩ := M.g k' hk
  have hh := M.heap k' b base hk h1
  refine ⟨⟨base, len, sz, mu, shr, by show μ' k' = _; rw [h5]; exact h1, by show g' k' = _; rw [h4, show g k' = _ from h2]; rfl, h3⟩, ?_⟩
  unfold World.cell?
  rw [hh]
theorem Mut.lrep1 {k : Key} (M : Mut f w0 S0 w g μ k w' g' μ') (hf : ∀ c, (∀ es, c ≠ .asl k es) → (∀ o, c ≠ .ptr k o) → (∀ i o cs, c ≠ .eptr k i o cs) → (∀ l n, c ≠ .sub k l n) → f c = c)
    (hA : ∀ es x, LRep1 (mkC w0 S0 w g μ) (.asl k es) x → LRep1 (mkC w0 S0 w' g' μ') (f (.asl k es)) x) (hP : ∀ o x, LRep1 (mkC w0 S0 w g μ) (.ptr k o) x → LRep1 (mkC w0 S0 w' g' μ') (f (.ptr k o)) x)
    (hE : ∀ i o cs x, LRep1 (mkC w0 S0 w g μ) (.eptr k i o cs) x → LRep1 (mkC w0 S0 w' g' μ') (f (.eptr k i o cs)) x)
    (hU : ∀ l n x, LRep1 (mkC w0 S0 w g μ) (.sub k l n) x → LRep1 (mkC w0 S0 w' g' μ') (f (.sub k l n)) x) {c : AV} {x : Value} (h : LRep1 (mkC w0 S0 w g μ) c x) : LRep1 (mkC w0 S0 w' g' μ') (f c) x := by
  have sc : ∀ {b i k' c x}, k' ≠ k → (Stab w0 S0 w g μ b i ∨ Own (mkC w0 S0 w g μ) k' b i) ∧ w.cell? ⟨b, i, none⟩ = some x ∧ atom c = true ∧ FRep w (Stab w0 S0 w g μ) c x →
      (Stab w0 S0 w' g' μ' b i ∨ Own (mkC w0 S0 w' g' μ') k' b i) ∧ w'.cell? ⟨b, i, none⟩ = some x ∧ atom c = true ∧ FRep w' (Stab w0 S0 w' g' μ') c x := by
    rintro b i k' c x hk ⟨h1, h2, h3, h4⟩
    refine ⟨?_, ?_, h3, M.frep h4⟩
    · rcases h1 with h1 | h1
      · exact .inl (M.S _ _ h1).1
      · exact .inr (M.own hk h1).1
    · rcases h1 with h1 | h1
      · rw [(M.S _ _ h1).2]; exact h2
      · rw [(M.own hk h1).2]; exact h2
  cases c with
  | asl k' es =>
    by_cases hk : k' = k
    · subst hk; exact hA es x h
    · rw [hf _ (fun _ h => by cases h; exact hk rfl) (by simp) (by simp) (by simp)]
      obtain ⟨len, sz, mu, shr, h1, h2, h3, h4, h5⟩ := h
      obtain ⟨h6, h7⟩ := M.g k' hk
      refine ⟨len, sz, mu, shr, by show g' k' = _; rw [h6, show g k' = _ from h1]; rfl, h2, h3, h4, ?_⟩
      rcases h5 with ⟨h5, h8, h9⟩ | ⟨b, q, cap, X, h5, hc, h8, h9⟩
      · exact .inl ⟨h5, h8, fun h => by show μ' k' = none; rw [h7]; exact h9 h⟩
      · refine .inr ⟨b, q, cap, X, h5, hc, fun h => ?_, fun i e j c he hc => sc hk (h9 i e j c he hc)⟩
        obtain ⟨h10, xs, T, h11, h12⟩ := h8 h
        exact ⟨by show μ' k' = _; rw [h7]; exact h10, xs, T, by show w'.heap[b]? = _; rw [M.heap k' b q hk h10]; exact h11, h12⟩
  | ptr k' q =>
    by_cases hk : k' = k
    · subst hk; exact hP q x h
    · rw [hf _ (by simp) (fun _ h => by cases h; exact hk rfl) (by simp) (by simp)]
      obtain ⟨b, cs, s, h1, h2, h3⟩ := h
      obtain ⟨h6, h7⟩ := M.g k' hk
      exact ⟨b, cs.map f, s, by show g' k' = _; rw [h6, show g k' = _ from h1]; rfl, by show μ' k' = _; rw [h7]; exact h2, h3⟩
  | eptr k' i q cs =>
    by_cases hk : k' = k
    · subst hk; exact hE i q cs x h
    · rw [hf _ (by simp) (by simp) (fun _ _ _ h => by cases h; exact hk rfl) (by simp)]
      obtain ⟨b, q', len, sz, mu, shr, X, h1, h2, h3, h4⟩ := h
      obtain ⟨h6, h7⟩ := M.g k' hk
      refine ⟨b, q', len, sz, mu, shr, X, by show g' k' = _; rw [h6, show g k' = _ from h1]; rfl, h2, fun h => ?_, fun j c hc => sc hk (h4 j c hc)⟩
      obtain ⟨base, h8⟩ := h3 h
      exact ⟨base, by show μ' k' = _ ∧ _; rw [h7]; exact h8⟩
  | sub k' l n =>
    by_cases hk : k' = k
    · subst hk; exact hU l n x h
    · rw [hf _ (by simp) (by simp) (by simp) (fun _ _ h => by cases h; exact hk rfl)]
      obtain ⟨b, o, cap, len, sz, mu, shr, h0, h1, h3⟩ := h
      obtain ⟨h6, h7⟩ := M.g k' hk
      refine ⟨b, o, cap, len, sz, mu, shr, h0, by show g' k' = _; rw [h6, show g k' = _ from h1]; rfl, fun h => ?_⟩
      obtain ⟨base, h8⟩ := h3 h
      exact ⟨base, by show μ' k' = _ ∧ _; rw [h7]; exact h8⟩
  | undef => rw [hf _ (by simp) (by simp) (by simp) (by simp)]; trivial
  | bnil T => rw [hf _ (by simp) (by simp) (by simp) (by simp)]; exact h
  | nilsl => rw [hf _ (by simp) (by simp) (by simp) (by simp)]; exact h
  | mp k => exact h.elim
  | it k => exact h.elim
  | agg cs => exact h.elim
  | tup cs => exact h.elim
  | own sz m es => exact h.elim
  | v y => rw [hf _ (by simp) (by simp) (by simp) (by simp)]; exact M.frep h
  | fsl es => rw [hf _ (by simp) (by simp) (by simp) (by simp)]; exact M.frep h
  | fptr cs => rw [hf _ (by simp) (by simp) (by simp) (by simp)]; exact M.frep h
  | fn f cs => rw [hf _ (by simp) (by simp) (by simp) (by simp)]; exact M.frep h
  | iface t y => rw [hf _ (by simp) (by simp) (by simp) (by simp)]; exact M.frep h
theorem mapA_rep {C C' : Ctx} {f : AV → AV} (h1 : ∀ c x, LRep1 C c x → LRep1 C' (f c) x) {c : AV} {x : Value} (h : LRepA C c x) : LRepA C' (mapA f c) x := by
  cases c with
  | agg cs =>
    obtain ⟨vs, h2, h3, h4⟩ := h
    refine ⟨vs, h2, by rw [h3]; simp, fun j c x hj hx => ?_⟩
    rw [List.getElem?_map, Option.map_eq_some_iff] at hj
    obtain ⟨c0, hc0, rfl⟩ := hj
    exact ⟨h1 _ _ (h4 j c0 x hc0 hx).1, (h4 j c0 x hc0 hx).2⟩
  | _ => simp only [LRepA] at h; exact LRepA.of1 (h1 _ _ h).atom (h1 _ _ h)
theorem mapT_rep {C C' : Ctx} {f : AV → AV} (h1 : ∀ c x, LRep1 C c x → LRep1 C' (f c) x) {c : AV} {x : Value} (h : LRep C c x) : LRep C' (mapT f c) x := by
  cases c with
  | tup cs =>
    obtain ⟨vs, h2, h3, h4⟩ := h
    refine ⟨vs, h2, by rw [h3]; simp, fun j c x hj hx => ?_⟩
    rw [List.getElem?_map, Option.map_eq_some_iff] at hj
    obtain ⟨c0, hc0, rfl⟩ := hj
    exact mapA_rep h1 (h4 j c0 x hc0 hx)
  | _ => simp only [LRep] at h; exact LRepA.lr (mapA_rep h1 h)
theorem Inv.mut (hI : Inv G w0 S0 T g μ a w) {k : Key} (M : Mut f w0 S0 w g μ k w' g' μ') (h1 : ∀ c x, LRep1 (mkC w0 S0 w g μ) c x → LRep1 (mkC w0 S0 w' g' μ') (f c) x)
    (hobk : ∀ x, g' k = some x → ObRep (mkC w0 S0 w' g' μ') k x) :
    Inv G w0 S0 (T.map (mapT f)) g' μ' a w' where
  below := M.below
  len := by rw [List.length_map]; exact hI.len
  tmp := fun i c h => by
    rw [List.getElem?_map, Option.map_eq_some_iff] at h
    obtain ⟨c0, hc0, rfl⟩ := h
    obtain ⟨x, h2, h3⟩ := hI.tmp i c0 hc0
    exact ⟨x, h2, mapT_rep h1 h3⟩
  ob := fun k' x h => by
    by_cases hk : k' = k
    · subst hk; exact hobk x h
    · obtain ⟨h2, h3⟩ := M.g k' hk
      rw [h2, Option.map_eq_some_iff] at h
      obtain ⟨y, hy, rfl⟩ := h
      have hy' := hI.ob k' y hy
      cases y with
      | var cs s =>
        obtain ⟨b, xs, T, h4, h5, h6, h7⟩ := hy'
        refine ⟨b, xs, T, by show μ' k' = _; rw [h3]; exact h4, by show w'.heap[b]? = _; rw [M.heap k' b 0 hk h4]; exact h5, by rw [h6]; simp, fun i c x hc hx => ?_, h7.2.map M.tag⟩
        rw [List.getElem?_map, Option.map_eq_some_iff] at hc
        obtain ⟨c0, hc0, rfl⟩ := hc
        exact ⟨h1 _ _ (h7.1 i c0 x hc0 hx).1, (h7.1 i c0 x hc0 hx).2⟩
      | tail len sz mu shr =>
        refine ⟨hy'.1, ?_⟩
        rcases hy'.2 with ⟨h4, h5⟩ | ⟨b, base, xs, T, h4, h5, h6⟩
        · exact .inl ⟨by show μ' k' = _; rw [h3]; exact h4, h5⟩
        · exact .inr ⟨b, base, xs, T, by show μ' k' = _; rw [h3]; exact h4, by show w'.heap[b]? = _; rw [M.heap k' b base hk h4]; exact h5, h6⟩
      | map es => exact hy'.elim
      | siter s p => exact hy'.elim
  pl := fun k' b base h => by
    by_cases hk : k' = k
    · subst hk; exact ⟨M.dom, (M.pl b base h).1, (M.pl b base h).2.1⟩
    · rw [(M.g k' hk).2] at h
      have := hI.pl k' b base h
      exact ⟨by rw [(M.g k' hk).1]; simpa using this.1, this.2.1, Nat.lt_of_lt_of_le this.2.2 M.size⟩
  inj := fun k1 k2 b i i' h1 h2 => by
    by_cases hk1 : k1 = k <;> by_cases hk2 : k2 = k
    · rw [hk1, hk2]
    · subst hk1
      rw [(M.g k2 hk2).2] at h2
      exact absurd h2 ((M.pl b i h1).2.2 k2 i' hk2)
    · subst hk2
      rw [(M.g k1 hk1).2] at h1
      exact absurd h1 ((M.pl b i' h2).2.2 k1 i hk1)
    · rw [(M.g k1 hk1).2] at h1
      rw [(M.g k2 hk2).2] at h2
      exact hI.inj k1 k2 b i i' h1 h2
  df := hI.df
  laid := hI.laid
  unlent := hI.unlent
  fz := fun b i ho hs => let ⟨h1, h2⟩ := hI.fz b i ho hs; ⟨(M.S b i h1).1, (M.S b i h1).2.trans h2⟩
  root := fun k' b h => by
    obtain ⟨h1, ⟨cs, s, h2⟩, h3⟩ := hI.root k' b h
    by_cases hk : k' = k
    · subst hk; exact ⟨h1, M.root b h⟩
    · obtain ⟨h4, h5⟩ := M.g k' hk
      exact ⟨h1, ⟨_, s, by rw [h4, h2]; rfl⟩, by rw [h5]; exact h3⟩
  gl := fun n => (hI.gl n).imp id fun h => M.frep h
theorem mapO_id : mapO id = id := by funext x; cases x <;> simp [mapO]
theorem mapA_id : mapA id = id := by funext x; cases x <;> simp [mapA]
theorem mapT_id : mapT id = id := by funext x; cases x <;> simp [mapT, mapA_id]
theorem setRow_facts {b : Nat} {xs ys : Array Value} {t : TypeId} {fr : Nat × Nat} (hb : w.heap[b]? = some (.cells xs t fr)) : (w.setRow b ys).heap[b]? = some (.cells ys t fr) ∧ (w.setRow b ys).heap.size = w.heap.size ∧ ∀ k, k ≠ b → (w.setRow b ys).heap[k]? = w.heap[k]? := by
  refine ⟨setRow_heap w b xs ys t fr hb, by simp [World.setRow], fun k hk => ?_⟩
  simp only [World.setRow, Array.getElem?_modify]
  rw [if_neg (fun h => hk h.symm)]
theorem below_setRow (hb : Bel S0.O w0 w) {b : Nat} {xs ys : Array Value} {t : TypeId} {fr : Nat × Nat} (hx : w.heap[b]? = some (.cells xs t fr)) (hge : Mine w0 S0 b) : Bel S0.O w0 (w.setRow b ys) := by
  obtain ⟨h1, h2, h3⟩ := setRow_facts (ys := ys) hx
  refine ⟨hb.os, hb.tape, hb.output, by have := hb.size; omega, fun k hk ho => ?_⟩
  rw [h3 k (by rintro rfl; rcases hge with h | h
               · omega
               · exact ho h)]
  exact hb.block k hk ho
theorem Inv.setVar (hI : Inv G w0 S0 T g μ a w) {k : Key} {cs cs' : List AV} {b : Nat} {xs xs' : Array Value} {t : TypeId} (hk : g k = some (.var cs false)) (hμ : μ k = some (b, 0)) (hx : w.heap[b]? = some (.cells xs t (0, 0)))
    (hg' : ∀ k', g' k' = if k' = k then some (.var cs' false) else g k') (hs : xs'.size = cs'.length) (ht : tagOk cs' t)
    (hc : ∀ (i : Nat) (c : AV) (x : Value), cs'[i]? = some c → xs'[i]? = some x → LRep1 (mkC w0 S0 w g μ) c x ∧ x.oneCell = true) : Inv G w0 S0 T g' μ a (w.setRow b xs') := by
  obtain ⟨h1, h2, h3⟩ := setRow_facts (ys := xs') hx
  have hpl := hI.pl k b 0 hμ
  have M : Mut id w0 S0 w g μ k (w.setRow b xs') g' μ := by
    refine ⟨below_setRow hI.below hx hpl.2.1, by omega, fun b' i h => ?_, fun k' hk' => ⟨by rw [hg', if_neg hk', mapO_id]; simp, rfl⟩, fun k' b' base hk' h => ?_, by rw [hg', if_pos rfl]; rfl, fun b' base h => ⟨(hI.pl k b' base h).2.1, by rw [h2]; exact (hI.pl k b' base h).2.2, fun k' i hk' h' => hk' (hI.inj _ _ _ _ _ h' h)⟩, fun b' h => ⟨⟨cs', false, by rw [hg', if_pos rfl]⟩, (hI.root k b' h).2.2⟩, fun _ _ h => h⟩
    · have hne : b' ≠ b := by
        rintro rfl
        rcases h with ⟨h, _⟩ | ⟨_, _, h⟩
        · exact hpl.2.1.elim (fun h' => by omega) h.2
        · have := h k 0 hμ
          rw [hk] at this
          cases this
      refine ⟨?_, by unfold World.cell?; rw [h3 b' hne]⟩
      rcases h with h | ⟨h4, h5, h6⟩
      · exact .inl h
      · refine .inr ⟨h4, by rw [h2]; exact h5, fun k' base hk' => ?_⟩
        rw [hg']
        split
        · rename_i he
          subst he
          rw [hμ] at hk'
          cases hk'
          exact absurd rfl hne
        · exact h6 k' base hk'
    · refine h3 b' ?_
      rintro rfl
      exact hk' (hI.inj _ _ _ _ _ h hμ)
  have L : ∀ c x, LRep1 (mkC w0 S0 w g μ) c x → LRep1 (mkC w0 S0 (w.setRow b xs') g' μ) (id c) x := by
    refine fun c x h => M.lrep1 (fun c _ _ _ _ => rfl) (fun es x h => ?_) (fun o x h => ?_) (fun i o cs x h => ?_) (fun l n x h => ?_) h
    · obtain ⟨_, _, _, _, h4, _⟩ := h
      rw [show g k = _ from h4] at hk; cases hk
    · obtain ⟨b', _, _, h4, h5, h6⟩ := h
      exact ⟨b', cs', false, by show g' k = _; rw [hg', if_pos rfl], h5, h6⟩
    · obtain ⟨_, _, _, _, _, _, _, h4, _⟩ := h
      rw [show g k = _ from h4] at hk; cases hk
    · obtain ⟨_, _, _, _, _, _, _, _, h4, _⟩ := h
      rw [show g k = _ from h4] at hk; cases hk
  have := hI.mut M L (fun x h => by
    rw [hg', if_pos rfl] at h
    cases h
    exact ⟨b, xs', t, hμ, h1, hs, fun i c x hi hx => ⟨L c x (hc i c x hi hx).1, (hc i c x hi hx).2⟩, ht⟩)
  rw [mapT_id, List.map_id] at this
  exact this
end
end Go.Proofs.YtmhdapjmndfkgaaGreatDoor.Eng
namespace Go.Proofs.YtmhdapjmndfkgaaGreatDoor.Eng
open Go Go.RowKit
theorem cut_get {α : Type} {cs xs : List α} {off : Nat} (h : off + xs.length ≤ cs.length) : (cs.take off ++ xs ++ cs.drop (off + xs.length)).length = cs.length ∧
    ∀ i, (cs.take off ++ xs ++ cs.drop (off + xs.length))[i]? = if off ≤ i ∧ i < off + xs.length then xs[i - off]? else cs[i]? := by
  refine ⟨by simp; omega, fun i => ?_⟩
  have ht : (cs.take off).length = off := by simp; omega
  by_cases h1 : i < off
  · rw [if_neg (by omega), List.append_assoc, List.getElem?_append_left (by omega), List.getElem?_take_of_lt h1]
  · by_cases h2 : i < off + xs.length
    · rw [if_pos ⟨by omega, h2⟩, List.append_assoc, List.getElem?_append_right (by omega), ht, List.getElem?_append_left (by omega)]
    · rw [if_neg (by omega), List.getElem?_append_right (by simp; omega), List.getElem?_drop]
      congr 1
      simp; omega
theorem getO_setO (k k' : Key) (x : Ob) : ∀ o : List (Key × Ob), getO (setO o k x) k' = if k = k' then some x else getO o k'
  | [] => by simp [setO, getO]
  | (k0, y) :: o => by
    have ih := getO_setO k k' x o
    by_cases h0 : k0 = k
    · subst h0
      simp only [setO, if_true, getO]
      split <;> rfl
    · simp only [setO, if_neg h0, getO, ih]
      by_cases h1 : k0 = k'
      · subst h1; simp [Ne.symm h0]
      · simp [h1]
section
variable {P : Program} {G : Nat → AV} {w0 w w' : World} {S0 : Sb} {T : List AV} {g g' : Key → Option Ob} {μ μ' ν : Key → Option (Nat × Nat)} {a : Act} {o : Oper} {r : R} {call : Call} {g0 : Key → Option Ob} {d j : Nat} {op : COp} {ow : Nat → Bool} {f : AV → AV} {σ σ' : St}
def MRes (P : Program) (G : Nat → AV) (w0 : World) (S0 : Sb) (σ : St) (o : Oper) (a : Act) (w : World) : Prop :=
  ∃ n y w', (execOp a.eval o).run P w = .ok n w' ∧ (n = .value y ∨ (n = .skip ∧ y = undef)) ∧ ∃ μ', Inv G w0 S0 σ.t (getO σ.o) μ' (a.put o.dst y) w'
theorem undef_rep (C : Ctx) : LRep C (.tup []) undef := ⟨#[], rfl, rfl, fun j c x h => by simp at h⟩
theorem splice_tag {cs xs : List AV} {off : Nat} {T : TypeId} (h : tagOk cs T) (h' : tagOk xs T) : tagOk (splice cs off xs) T := by
  intro T' hh
  unfold splice at hh
  cases off with
  | zero =>
    cases xs with
    | nil => simp at hh; exact h T' hh
    | cons c l => simp at hh; exact h' T' (by simpa using hh)
  | succ off =>
    cases cs with
    | nil =>
      simp only [List.take_nil, List.nil_append, List.drop_nil, List.append_nil] at hh
      exact h' T' hh
    | cons c l => simp at hh; exact h T' (by simpa using hh)
theorem m_stV (hI : Inv G w0 S0 σ.t (getO σ.o) μ a w) {t : TypeId} {n off : Nat} {p x : Operand} {k : Key} {cs : List AV} (hn : szT P t = some n) (ho : o.op = .store t p x)
    (hp : Eng.ev σ.t G (cX p) = .ptr k off) (hk : getO σ.o k = some (.var cs false)) (hl : (cellsOf (Eng.ev σ.t G (cX x))).length = n) (hle : off + n ≤ cs.length) (hs : solid (Eng.ev σ.t G (cX x)) = true) :
    MRes P G w0 S0 (St.put { σ with o := setO σ.o k (.var (splice cs off (cellsOf (Eng.ev σ.t G (cX x)))) false) } o.dst (.tup [])) o a w := by
  have hpr := hI.ev p
  rw [hp] at hpr
  obtain ⟨b, cs1, s1, h1, h2, h3⟩ := hpr
  obtain ⟨b', xs, ty, h4, h5, h6, h7⟩ := hI.ob k _ hk
  have h2' : μ k = some (b, 0) := h2
  have h4' : μ k = some (b', 0) := h4
  rw [h2'] at h4'
  cases h4'
  obtain ⟨c1, c2⟩ := cells_rep hs (hI.ev x)
  have c3 : (a.eval x).cells.toList.length = n := by rw [Array.length_toList, c1, hl]
  have hrun := run_storeCells_at P b off ty (a.eval x).cells.toList 0 xs w h5 (by rw [c3, h6]; omega) (fun v hv => by
    obtain ⟨j, hj, rfl⟩ := List.mem_iff_getElem.1 hv
    rw [oneCell_eq]
    have hj' : j < (cellsOf (Eng.ev σ.t G (cX x))).length := by rw [← c1]; simpa using hj
    exact (c2 j _ _ (List.getElem?_eq_getElem hj') (by rw [← Array.getElem?_toList]; exact List.getElem?_eq_getElem hj)).2)
  simp only [Nat.add_zero] at hrun
  refine ⟨.skip, undef, w.setRow b (xs.toList.take off ++ (a.eval x).cells.toList ++ xs.toList.drop (off + (a.eval x).cells.toList.length)).toArray, ?_, .inr ⟨rfl, rfl⟩, μ, ?_⟩
  · have hsz : (a.eval x).cells.size = n := by rw [c1, hl]
    simp only [execOp, ho, Instr.storeAt, h3, Instr.sureAddr, Sem.run_bind, Sem.run_pure, Result.andThen_ok, storeVar, run_sizeOf hn, hsz]
    simp [hrun]
  · refine Inv.putO ?_ o.dst (undef_rep _)
    obtain ⟨e1, e2⟩ := cut_get (cs := xs.toList) (xs := (a.eval x).cells.toList) (off := off) (by rw [c3, Array.length_toList, h6]; omega)
    obtain ⟨e3, e4⟩ := cut_get (cs := cs) (xs := cellsOf (Eng.ev σ.t G (cX x))) (off := off) (by rw [hl]; omega)
    refine hI.setVar (cs' := splice cs off (cellsOf (Eng.ev σ.t G (cX x)))) hk h2' h5 (fun k' => ?_) ?_ (splice_tag h7.2 (solid_tag hs)) fun i c y hi hy => ?_
    · show getO (setO σ.o k _) k' = _
      rw [getO_setO]
      by_cases h : k = k'
      · subst h; simp
      · rw [if_neg h, if_neg (fun h' => h h'.symm)]
    · rw [List.size_toArray, e1, Array.length_toList, h6]; exact e3.symm
    · rw [List.getElem?_toArray, e2] at hy
      have hi' := hi
      unfold splice at hi'
      rw [e4] at hi'
      rw [c3] at hy
      rw [hl] at hi'
      by_cases hc : off ≤ i ∧ i < off + n
      · rw [if_pos hc] at hy hi'
        exact c2 _ c y hi' (by rw [← Array.getElem?_toList]; exact hy)
      · rw [if_neg hc] at hy hi'
        exact h7.1 i c y hi' (by rw [← Array.getElem?_toList]; exact hy)
theorem run_append_row (t tx ty e : TypeId) (i : TypeInfo) (ht : P.underlying t = some (.slice e)) (hi : P.info? e = some i) (b off sLen sCap : Nat) (x : Value) (n : Nat) (news : List Value) (hs : Src P i.size tx x n news w)
    (hroom : sLen + n ≤ sCap) {cur : Array Value} {T : TypeId} (hg : w.heap[b]? = some (.cells cur T (0, 0))) (hl : off + sLen * i.size + news.length ≤ cur.size) :
    (Builtin.append_ #[t, tx] ty #[.slice (some ⟨b, off, none⟩) sLen sCap, x]).run P w = .ok (.slice (some ⟨b, off, none⟩) (sLen + n) sCap)
      (w.setRow b (cur.toList.take (off + sLen * i.size) ++ news ++ cur.toList.drop (off + sLen * i.size + news.length)).toArray) := by
  have hst := run_storeCells_at P b (off + sLen * i.size) T news 0 cur w hg (by omega) hs.one
  simp only [Nat.add_zero] at hst
  rcases hs.kind with ⟨e', hk⟩ | hk <;> simp [Builtin.append_, run_underlying ht, run_underlying hk, sizeOf, typeInfo, hi, hs.len, hroom, hs.cells, addr_add, hst]
theorem two_args {c : Go.Call} {b : Builtin} {x y : Operand} {v : Value} (ho : o.op = .call c) (hc : c.callee = .builtin b) (ha : c.args.toList = [x, y])
    (hv : ∀ cs, (builtin b c.argTypes o.type cs #[a.eval x, a.eval y]).run P w = .ok (.value v) w') : (execOp a.eval o).run P w = .ok (.value v) w' := by
  have ha' : c.args = #[x, y] := by cases hh : c.args; simp_all
  simp only [execOp, ho, resolve, hc, ha', Sem.run_bind, Sem.run_pure, Result.andThen_ok, invoke]
  rw [show Array.map a.eval #[x, y] = #[a.eval x, a.eval y] by simp]
  exact hv _
theorem src_of {C : Ctx} (hw : C.w = w) {y : AV} {v : Value} {ys : List (List AV)} {sz : Nat} {tx : TypeId} (hsz : 0 < sz)
    {str : Bool} (hy : srcOf str sz y = some ys) (hl : lenOk sz ys = true) (ht : (str = false ∧ ∃ e, P.underlying tx = some (.slice e)) ∨ (str = true ∧ P.underlying tx = some .string)) (h : LRep C y v) :
    ∃ news : List Value, Src P sz tx v ys.length news w ∧ ∀ (i : Nat) (e : List AV) (j : Nat) (c : AV), ys[i]? = some e → e[j]? = some c → ∃ x, news[i * sz + j]? = some x ∧ FRep w C.S c x ∧ atom c = true := by
  rcases ht with ⟨rfl, e, ht⟩ | ⟨rfl, ht⟩
  · have hy' : elemsOf y = some ys := hy
    rcases slice_inv hy' h with ⟨rfl, rfl⟩ | ⟨a0, cap, rfl, rfl⟩ | ⟨b, q, cap, sz', X, rfl, hk, h2, h3⟩
    · exact ⟨[], Src.ofNil w ht 0, fun i e j c h => by simp at h⟩
    · exact ⟨[], Src.ofSlice w ht a0 0 cap [] (by simp) (fun j u h => by simp at h) (fun u h => by cases h), fun i e j c h => by simp at h⟩
    · let news := (List.range (ys.length * sz)).map fun m => X (m / sz) (m % sz)
      have hn : ∀ i j, i < ys.length → j < sz → news[i * sz + j]? = some (X i j) := by
        intro i j hi hj
        have := idx_lt hi hj
        simp only [news, List.getElem?_map, List.getElem?_range this, Option.map_some]
        rw [show (i * sz + j) / sz = i by rw [Nat.add_comm, Nat.add_mul_div_right _ _ hsz, Nat.div_eq_of_lt hj, Nat.zero_add], show (i * sz + j) % sz = j by rw [Nat.add_comm, Nat.add_mul_mod_self_right, Nat.mod_eq_of_lt hj]]
      have full : ∀ m v, news[m]? = some v → ∃ i j e c, ys[i]? = some e ∧ e[j]? = some c ∧ m = i * sz + j ∧ v = X i j := by
        intro m v hm
        have hlt : m < ys.length * sz := by
          have := (List.getElem?_eq_some_iff.1 hm).1
          simpa [news] using this
        have hi : m / sz < ys.length := by rw [Nat.div_lt_iff_lt_mul hsz]; exact hlt
        have hj : m % sz < sz := Nat.mod_lt _ hsz
        have he : ys[m / sz]? = some ys[m / sz] := List.getElem?_eq_getElem hi
        have hel := lenOk_get hl _ _ he
        have hc : ys[m / sz][m % sz]? = some (ys[m / sz][m % sz]'(by rw [hel]; exact hj)) := List.getElem?_eq_getElem _
        have hmm : m = m / sz * sz + m % sz := by have := Nat.div_add_mod m sz; rw [Nat.mul_comm] at this; exact this.symm
        refine ⟨m / sz, m % sz, _, _, he, hc, hmm, ?_⟩
        have := hn _ _ hi hj
        rw [← hmm, hm] at this
        exact Option.some.inj this
      have hsz' : ∀ i e, ys[i]? = some e → sz' = sz := fun i e he => by rw [← h2 i e he]; exact lenOk_get hl _ _ he
      refine ⟨news, Src.ofSlice w ht ⟨b, q, none⟩ ys.length cap news (by simp [news]) (fun m v hm => ?_) (fun u hu => ?_), fun i e j c he hc => ?_⟩
      · obtain ⟨i, j, e, c, he, hc, rfl, rfl⟩ := full m v hm
        rw [addr_add, ← hw]
        have := (h3 i e j c he hc).1
        rw [hsz' i e he] at this
        exact this
      · obtain ⟨m, hm, rfl⟩ := List.mem_iff_getElem.1 hu
        obtain ⟨i, j, e, c, he, hc, _, hv⟩ := full m _ (List.getElem?_eq_getElem hm)
        rw [hv, oneCell_eq]
        exact (h3 i e j c he hc).2.2.oneCell (h3 i e j c he hc).2.1
      · have hj : j < sz := by rw [← lenOk_get hl _ _ he]; exact (List.getElem?_eq_some_iff.1 hc).1
        obtain ⟨_, h5, h6⟩ := h3 i e j c he hc
        rw [hw] at h6
        exact ⟨_, hn i j (List.getElem?_eq_some_iff.1 he).1 hj, h6, h5⟩
  · simp only [srcOf, cond_true] at hy
    split at hy
    · rename_i s
      have h := h.v_inv
      subst h
      split at hy
      rotate_left
      · cases hy
      rename_i h1
      cases hy
      subst h1
      have hsl : s.toList.length = s.size := by rw [Go.ByteArray.toList_eq]; exact Array.length_toList
      have hsrc := Src.ofString (P := P) w ht s
      rw [show (s.toList.map fun (b : UInt8) => [AV.v (.int .u8 (b.toNat : Int))]).length = s.size by rw [List.length_map, hsl]]
      refine ⟨byteCells s, hsrc, fun i e j c he hc => ?_⟩
      rw [List.getElem?_map, Option.map_eq_some_iff] at he
      obtain ⟨u, hu, rfl⟩ := he
      match j with
      | 0 =>
        simp at hc
        subst hc
        refine ⟨_, ?_, .v rfl, rfl⟩
        unfold byteCells
        rw [← Go.ByteArray.toList_eq]
        simp [hu]
      | j + 1 => simp at hc
    · cases hy
end
end Go.Proofs.YtmhdapjmndfkgaaGreatDoor.Eng
namespace Go.Proofs.YtmhdapjmndfkgaaGreatDoor.Eng
open Go Go.RowKit
section
variable {P : Program} {G : Nat → AV} {w0 w w' : World} {S0 : Sb} {T : List AV} {g g' : Key → Option Ob} {μ μ' ν : Key → Option (Nat × Nat)} {a : Act} {o : Oper} {r : R} {call : Call} {g0 : Key → Option Ob} {d j : Nat} {op : COp} {ow : Nat → Bool} {f : AV → AV} {σ σ' : St}
def LR (w : World) (S : Nat → Nat → Prop) (sz : Nat) (es : List (List AV)) (xs : List Value) : Prop :=
  xs.length = es.length * sz ∧ ∀ (i : Nat) (e : List AV) (j : Nat) (c : AV), es[i]? = some e → e[j]? = some c → ∃ x, xs[i * sz + j]? = some x ∧ FRep w S c x ∧ atom c = true
theorem LR.append {S : Nat → Nat → Prop} {sz : Nat} {es fs : List (List AV)} {xs ys : List Value} (h : LR w S sz es xs) (h' : LR w S sz fs ys) : LR w S sz (es ++ fs) (xs ++ ys) := by
  refine ⟨by rw [List.length_append, List.length_append, h.1, h'.1, Nat.add_mul], fun i e j c hi hj => ?_⟩
  by_cases hlt : i < es.length
  · rw [List.getElem?_append_left hlt] at hi
    obtain ⟨x, h1, h2⟩ := h.2 i e j c hi hj
    refine ⟨x, ?_, h2⟩
    rw [List.getElem?_append_left]
    · exact h1
    · exact (List.getElem?_eq_some_iff.1 h1).1
  · rw [List.getElem?_append_right (by omega)] at hi
    obtain ⟨x, h1, h2⟩ := h'.2 _ e j c hi hj
    refine ⟨x, ?_, h2⟩
    have hm : i * sz = es.length * sz + (i - es.length) * sz := by rw [← Nat.add_mul]; congr 1; omega
    rw [List.getElem?_append_right (by rw [h.1]; omega), h.1, ← h1]
    congr 1
    omega
theorem Inv.room (hI : Inv G w0 S0 T g μ a w) {k : Key} {n m cap b q : Nat} {sz : Sz} {mu shr : Bool} {es ys : List (List AV)} {xs xs' : Array Value} {t : TypeId} (hk : g k = some (.tail n sz mu shr)) (hn : n = es.length) (hm : m = ys.length)
    (hμ : μ k = some (b, q)) (hx : w.heap[b]? = some (.cells xs t (0, 0))) (hcap : q + cap * sz ≤ xs.size) (hle : n + m ≤ cap) (hs : xs'.size = xs.size)
    (hold : ∀ i, i < q + n * sz → xs'[i]? = xs[i]?) (hel : ∀ (i : Nat) (e : List AV), es[i]? = some e → e.length = sz) (hyl : ∀ (i : Nat) (e : List AV), ys[i]? = some e → e.length = sz)
    (hes : ∀ (i : Nat) (e : List AV) (j : Nat) (c : AV), es[i]? = some e → e[j]? = some c → ∃ x, xs[q + (i * sz + j)]? = some x ∧ FRep w (Stab w0 S0 w g μ) c x ∧ atom c = true)
    (hys : ∀ (i : Nat) (e : List AV) (j : Nat) (c : AV), ys[i]? = some e → e[j]? = some c → ∃ x, xs'[q + ((n + i) * sz + j)]? = some x ∧ FRep w (Stab w0 S0 w g μ) c x ∧ atom c = true)
    (hg' : ∀ k', g' k' = if k' = k then some (.tail (n + m) sz false shr) else g k') (d : Nat) :
    Inv G w0 S0 (T.set d (.asl k (es ++ ys))) g' μ (a.put (some d) (.slice (some ⟨b, q, none⟩) (n + m) cap)) (w.setRow b xs') := by
  obtain ⟨h1, h2, h3⟩ := setRow_facts (ys := xs') hx
  have hpl := hI.pl k b q hμ
  have cellb : ∀ i, i < q + n * sz → (w.setRow b xs').cell? ⟨b, i, none⟩ = w.cell? ⟨b, i, none⟩ := by
    intro i hi
    unfold World.cell?
    rw [h1, hx]
    simpa using hold i hi
  have M : Mut id w0 S0 w g μ k (w.setRow b xs') g' μ := by
    refine ⟨below_setRow hI.below hx hpl.2.1, by omega, fun b' i h => ?_, fun k' hk' => ⟨by rw [hg', if_neg hk', mapO_id]; simp, rfl⟩, fun k' b' base hk' h => ?_, by rw [hg', if_pos rfl]; rfl, fun b' base h => ⟨(hI.pl k b' base h).2.1, by rw [h2]; exact (hI.pl k b' base h).2.2, fun k' i hk' h' => hk' (hI.inj _ _ _ _ _ h' h)⟩, fun b' h => (hI.noRoot hk h).elim, fun _ _ h => h⟩
    · have hc : (w.setRow b xs').cell? ⟨b', i, none⟩ = w.cell? ⟨b', i, none⟩ := by
        by_cases hb : b' = b
        · subst hb
          rcases h with ⟨h, _⟩ | ⟨_, _, h⟩
          · exact hpl.2.1.elim (fun h' => by omega) (fun h' => absurd h' h.2)
          · have := h k q hμ
            rw [hk] at this
            exact cellb i this.2
        · unfold World.cell?; rw [h3 b' hb]
      refine ⟨?_, hc⟩
      rcases h with h | ⟨h4, h5, h6⟩
      · exact .inl h
      · refine .inr ⟨h4, by rw [h2]; exact h5, fun k' base hk' => ?_⟩
        rw [hg']
        split
        · rename_i he
          subst he
          have := h6 k' base hk'
          rw [hk] at this
          exact ⟨this.1, by have h7 := this.2; rw [Nat.add_mul]; omega⟩
        · exact h6 k' base hk'
    · refine h3 b' ?_
      rintro rfl
      exact hk' (hI.inj _ _ _ _ _ h hμ)
  have own : ∀ b' i, Own (mkC w0 S0 w g μ) k b' i → Own (mkC w0 S0 (w.setRow b xs') g' μ) k b' i ∧ (w.setRow b xs').cell? ⟨b', i, none⟩ = w.cell? ⟨b', i, none⟩ := by
    rintro b' i ⟨base, len, sz', mu', shr', h4, h5, h6⟩
    have h4 : μ k = some (b', base) := h4
    have h5 : g k = some (.tail len sz' mu' shr') := h5
    rw [hμ] at h4
    rw [hk] at h5
    cases h4; cases h5
    refine ⟨⟨_, n + m, sz, false, shr, hμ, by show g' k = _; rw [hg', if_pos rfl], by rw [Nat.add_mul]; omega⟩, cellb i h6⟩
  have sc : ∀ {b' i c x}, (Stab w0 S0 w g μ b' i ∨ Own (mkC w0 S0 w g μ) k b' i) ∧ w.cell? ⟨b', i, none⟩ = some x ∧ atom c = true ∧ FRep w (Stab w0 S0 w g μ) c x →
      (Stab w0 S0 (w.setRow b xs') g' μ b' i ∨ Own (mkC w0 S0 (w.setRow b xs') g' μ) k b' i) ∧ (w.setRow b xs').cell? ⟨b', i, none⟩ = some x ∧ atom c = true ∧ FRep (w.setRow b xs') (Stab w0 S0 (w.setRow b xs') g' μ) c x := by
    rintro b' i c x ⟨h4, h5, h6, h7⟩
    refine ⟨?_, ?_, h6, M.frep h7⟩
    · rcases h4 with h4 | h4
      · exact .inl (M.S _ _ h4).1
      · exact .inr (own _ _ h4).1
    · rcases h4 with h4 | h4
      · rw [(M.S _ _ h4).2]; exact h5
      · rw [(own _ _ h4).2]; exact h5
  have gk : g' k = some (.tail (n + m) sz false shr) := by rw [hg', if_pos rfl]
  have L : ∀ c x, LRep1 (mkC w0 S0 w g μ) c x → LRep1 (mkC w0 S0 (w.setRow b xs') g' μ) (id c) x := by
    refine fun c x h => M.lrep1 (fun c _ _ _ _ => rfl) (fun es' x h => ?_) (fun o x h => ?_) (fun i o cs x h => ?_) (fun l0 n0 x h => ?_) h
    · obtain ⟨len, sz', mu', shr', h4, h5, h6, h7, h8⟩ := h
      have h4 : g k = some (.tail len sz' mu' shr') := h4
      rw [hk] at h4
      cases h4
      refine ⟨n + m, sz, false, shr, gk, by omega, by simp, h7, ?_⟩
      rcases h8 with ⟨h8, h9, h10⟩ | ⟨b', q', cap', X, h8, hkc, h9, h10⟩
      · exact .inl ⟨h8, h9, fun h0 => by
          have : μ k = none := h10 (by omega)
          rw [hμ] at this; cases this⟩
      · refine .inr ⟨b', q', cap', X, h8, hkc, fun h0 => ?_, fun i e j c he hc => sc (h10 i e j c he hc)⟩
        obtain ⟨h11, xs1, T1, h12, h13⟩ := h9 (by omega)
        have h11 : μ k = some (b', q') := h11
        have h12 : w.heap[b']? = some (.cells xs1 T1 (0, 0)) := h12
        rw [hμ] at h11
        cases h11
        rw [hx] at h12
        cases h12
        exact ⟨hμ, xs', t, h1, by rw [hs]; exact h13⟩
    · obtain ⟨_, _, _, h4, _⟩ := h
      rw [show g k = _ from h4] at hk; cases hk
    · obtain ⟨b', q', len, sz', mu', shr', X, h4, h5, h6, h7⟩ := h
      have h4 : g k = some (.tail len sz' mu' shr') := h4
      rw [hk] at h4
      cases h4
      exact ⟨b', q', n + m, sz, false, shr, X, gk, h5, by simp, fun j c hc => sc (h7 j c hc)⟩
    · obtain ⟨a', o', cap', len, sz', mu', shr', h0, h4, h5⟩ := h
      have h4 : g k = some (.tail len sz' mu' shr') := h4
      rw [hk] at h4
      cases h4
      exact ⟨a', o', cap', n + m, sz, false, shr, h0, gk, by simp⟩
  have I1 := hI.mut M L (fun x h => by
    rw [gk] at h
    cases h
    exact ⟨by simp, .inr ⟨b, q, xs', t, hμ, h1, by rw [hs]; exact Nat.le_trans (Nat.add_le_add_left (Nat.mul_le_mul_right _ hle) _) hcap, hI.tySz hk hμ hx⟩⟩)
  rw [mapT_id, List.map_id] at I1
  refine I1.put d ?_
  have hlen : (es ++ ys).length = n + m := by rw [List.length_append]; omega
  refine ⟨n + m, sz, false, shr, gk, by omega, by simp, fun i e hi => ?_, .inr ⟨b, q, cap, fun i j => xs'.getD (q + (i * sz + j)) default, by rw [hlen], by omega, fun _ => ⟨hμ, xs', t, h1, by rw [hs]; exact hcap⟩, fun i e j c hi hj => ?_⟩⟩
  · by_cases hlt : i < es.length
    · rw [List.getElem?_append_left hlt] at hi; exact hel i e hi
    · rw [List.getElem?_append_right (by omega)] at hi; exact hyl _ e hi
  · have hin : i < n + m := by rw [← hlen]; exact (List.getElem?_eq_some_iff.1 hi).1
    obtain ⟨x, h4, h5, h6⟩ : ∃ x, xs'[q + (i * sz + j)]? = some x ∧ FRep w (Stab w0 S0 w g μ) c x ∧ atom c = true := by
      by_cases hlt : i < es.length
      · rw [List.getElem?_append_left hlt] at hi
        obtain ⟨x, h4, h5⟩ := hes i e j c hi hj
        have hjs : j < sz := by rw [← hel i e hi]; exact (List.getElem?_eq_some_iff.1 hj).1
        have := idx_lt (n := n) (by omega : i < n) hjs
        exact ⟨x, by rw [hold _ (by omega)]; exact h4, h5⟩
      · rw [List.getElem?_append_right (by omega)] at hi
        obtain ⟨x, h4, h5⟩ := hys _ e j c hi hj
        exact ⟨x, by rw [show i = n + (i - es.length) by omega]; exact h4, h5⟩
    have hjs : j < sz := by
      by_cases hlt : i < es.length
      · rw [List.getElem?_append_left hlt] at hi
        rw [← hel i e hi]; exact (List.getElem?_eq_some_iff.1 hj).1
      · rw [List.getElem?_append_right (by omega)] at hi
        rw [← hyl _ e hi]; exact (List.getElem?_eq_some_iff.1 hj).1
    have hl := idx_lt hin hjs
    have hxd : xs'.getD (q + (i * sz + j)) default = x := by
      have := (Array.getElem?_eq_some_iff.1 h4)
      obtain ⟨h7, h8⟩ := this
      simp [Array.getD, h7, h8]
    refine ⟨.inr ⟨q, n + m, sz, false, shr, hμ, gk, by omega⟩, ?_, h6, ?_⟩
    · show World.cell? _ _ = some (xs'.getD (q + (i * sz + j)) default)
      rw [hxd]; exact cell_of_heap h1 h4
    · show FRep _ _ c (xs'.getD (q + (i * sz + j)) default)
      rw [hxd]; exact M.frep h5
theorem Inv.grow (hI : Inv G w0 S0 T g μ a w) {k : Key} {n m cap : Nat} {sz : Sz} {mu shr : Bool} {es ys : List (List AV)} {xs' : Array Value} {t : TypeId} (hk : g k = some (.tail n sz mu shr)) (hn : n = es.length) (hm : m = ys.length) (hm0 : 0 < m)
    (hcap : cap * sz ≤ xs'.size) (hst : szOk sz t) (hle : n + m ≤ cap) (hel : ∀ (i : Nat) (e : List AV), es[i]? = some e → e.length = sz) (hyl : ∀ (i : Nat) (e : List AV), ys[i]? = some e → e.length = sz)
    (hall : ∀ (i : Nat) (e : List AV) (j : Nat) (c : AV), (es ++ ys)[i]? = some e → e[j]? = some c → ∃ x, xs'[i * sz + j]? = some x ∧ FRep w (Stab w0 S0 w g μ) c x ∧ atom c = true)
    (hg' : ∀ k', g' k' = if k' = k then some (.tail (n + m) sz false shr) else g k') (d : Nat) :
    ∃ μ', Inv G w0 S0 (T.set d (.asl k (es ++ ys))) g' μ' (a.put (some d) (.slice (some ⟨w.heap.size, 0, none⟩) (n + m) cap)) (w.drew.alloc (.cells xs' t)) := by
  let μ' : Key → Option (Nat × Nat) := fun k' => if k' = k then some (w.heap.size, 0) else μ k'
  have hμk : μ' k = some (w.heap.size, 0) := by simp [μ']
  have hμo : ∀ k', k' ≠ k → μ' k' = μ k' := fun k' h => by simp [μ', h]
  have hsz : (w.drew.alloc (.cells xs' t)).heap.size = w.heap.size + 1 := by simp
  have hb : Below w.heap.size w (w.drew.alloc (.cells xs' t)) := ((Below.refl _ _).drew).alloc (by simp) _
  have hnew : (w.drew.alloc (.cells xs' t)).heap[w.heap.size]? = some (.cells xs' t (0, 0)) := heap_alloc_new (w := w.drew) _
  have hw0 := hI.below.size
  have stab : ∀ b' i, Stab w0 S0 w g μ b' i → Stab w0 S0 (w.drew.alloc (.cells xs' t)) g' μ' b' i := by
    intro b' i h
    rcases h with h | ⟨h4, h5, h6⟩
    · exact .inl h
    · refine .inr ⟨h4, by omega, fun k' base hk' => ?_⟩
      by_cases he : k' = k
      · subst he; rw [hμk] at hk'; cases hk'; omega
      · rw [hg', if_neg he]; exact h6 k' base (by rw [← hμo k' he]; exact hk')
  have lt : ∀ b' i, Stab w0 S0 w g μ b' i → b' < w.heap.size := fun b' i h => stab_lt hI b' i h
  have M : Mut id w0 S0 w g μ k (w.drew.alloc (.cells xs' t)) g' μ' := by
    refine ⟨hI.below.then hb, by omega, fun b' i h => ⟨stab b' i h, hb.cell (p := ⟨b', i, none⟩) (lt b' i h)⟩, fun k' hk' => ⟨by rw [hg', if_neg hk', mapO_id]; simp, hμo k' hk'⟩, fun k' b' base hk' h => hb.block b' (hI.pl k' b' base h).2.2, by rw [hg', if_pos rfl]; rfl, fun b' base h => ?_, fun b' h => (hI.noRoot hk h).elim, fun _ _ h => h⟩
    rw [hμk] at h
    cases h
    exact ⟨.inl hw0, by omega, fun k' i hk' h' => by have := (hI.pl k' _ i h').2.2; omega⟩
  have gk : g' k = some (.tail (n + m) sz false shr) := by rw [hg', if_pos rfl]
  have old : ∀ b' i, Own (mkC w0 S0 w g μ) k b' i → Stab w0 S0 (w.drew.alloc (.cells xs' t)) g' μ' b' i ∧ (w.drew.alloc (.cells xs' t)).cell? ⟨b', i, none⟩ = w.cell? ⟨b', i, none⟩ := by
    rintro b' i ⟨base, len, sz', mu', shr', h4, h5, h6⟩
    have h4 : μ k = some (b', base) := h4
    have hp := hI.pl k b' base h4
    refine ⟨.inr ⟨hp.2.1, by omega, fun k' base' hk' => ?_⟩, hb.cell (p := ⟨b', i, none⟩) hp.2.2⟩
    by_cases he : k' = k
    · subst he; rw [hμk] at hk'; cases hk'; omega
    · rw [hμo k' he] at hk'
      exact absurd (hI.inj _ _ _ _ _ hk' h4) he
  have sc : ∀ {b' i c x}, (Stab w0 S0 w g μ b' i ∨ Own (mkC w0 S0 w g μ) k b' i) ∧ w.cell? ⟨b', i, none⟩ = some x ∧ atom c = true ∧ FRep w (Stab w0 S0 w g μ) c x →
      (Stab w0 S0 (w.drew.alloc (.cells xs' t)) g' μ' b' i ∨ Own (mkC w0 S0 (w.drew.alloc (.cells xs' t)) g' μ') k b' i) ∧ (w.drew.alloc (.cells xs' t)).cell? ⟨b', i, none⟩ = some x ∧ atom c = true ∧ FRep (w.drew.alloc (.cells xs' t)) (Stab w0 S0 (w.drew.alloc (.cells xs' t)) g' μ') c x := by
    rintro b' i c x ⟨h4, h5, h6, h7⟩
    refine ⟨.inl ?_, ?_, h6, M.frep h7⟩
    · rcases h4 with h4 | h4
      · exact (M.S _ _ h4).1
      · exact (old _ _ h4).1
    · rcases h4 with h4 | h4
      · rw [(M.S _ _ h4).2]; exact h5
      · rw [(old _ _ h4).2]; exact h5
  have L : ∀ c x, LRep1 (mkC w0 S0 w g μ) c x → LRep1 (mkC w0 S0 (w.drew.alloc (.cells xs' t)) g' μ') (id c) x := by
    refine fun c x h => M.lrep1 (fun c _ _ _ _ => rfl) (fun es' x h => ?_) (fun o x h => ?_) (fun i o cs x h => ?_) (fun l0 n0 x h => ?_) h
    · obtain ⟨len, sz', mu', shr', h4, h5, h6, h7, h8⟩ := h
      have h4 : g k = some (.tail len sz' mu' shr') := h4
      rw [hk] at h4
      cases h4
      refine ⟨n + m, sz, false, shr, gk, by omega, by simp, h7, ?_⟩
      rcases h8 with ⟨h8, h9, h10⟩ | ⟨b', q', cap', X, h8, hkc, h9, h10⟩
      · exact .inl ⟨h8, h9, fun h0 => by omega⟩
      · exact .inr ⟨b', q', cap', X, h8, hkc, fun h0 => by omega, fun i e j c he hc => sc (h10 i e j c he hc)⟩
    · obtain ⟨_, _, _, h4, _⟩ := h
      rw [show g k = _ from h4] at hk; cases hk
    · obtain ⟨b', q', len, sz', mu', shr', X, h4, h5, h6, h7⟩ := h
      have h4 : g k = some (.tail len sz' mu' shr') := h4
      rw [hk] at h4
      cases h4
      exact ⟨b', q', n + m, sz, false, shr, X, gk, h5, by simp, fun j c hc => sc (h7 j c hc)⟩
    · obtain ⟨a', o', cap', len, sz', mu', shr', h0, h4, h5⟩ := h
      have h4 : g k = some (.tail len sz' mu' shr') := h4
      rw [hk] at h4
      cases h4
      exact ⟨a', o', cap', n + m, sz, false, shr, h0, gk, by simp⟩
  have hsz2 : (n + m) * sz ≤ xs'.size := Nat.le_trans (Nat.mul_le_mul_right _ hle) hcap
  have I1 := hI.mut M L (fun x h => by
    rw [gk] at h
    cases h
    exact ⟨by simp, .inr ⟨w.heap.size, 0, xs', t, hμk, hnew, by omega, hst⟩⟩)
  rw [mapT_id, List.map_id] at I1
  refine ⟨μ', I1.put d ?_⟩
  have hlen : (es ++ ys).length = n + m := by rw [List.length_append]; omega
  refine ⟨n + m, sz, false, shr, gk, by omega, by simp, fun i e hi => ?_, .inr ⟨w.heap.size, 0, cap, fun i j => xs'.getD (i * sz + j) default, by rw [hlen], by omega, fun _ => ⟨hμk, xs', t, hnew, by omega⟩, fun i e j c hi hj => ?_⟩⟩
  · by_cases hlt : i < es.length
    · rw [List.getElem?_append_left hlt] at hi; exact hel i e hi
    · rw [List.getElem?_append_right (by omega)] at hi; exact hyl _ e hi
  · have hin : i < n + m := by rw [← hlen]; exact (List.getElem?_eq_some_iff.1 hi).1
    obtain ⟨x, h4, h5, h6⟩ := hall i e j c hi hj
    have hjs : j < sz := by
      by_cases hlt : i < es.length
      · rw [List.getElem?_append_left hlt] at hi
        rw [← hel i e hi]; exact (List.getElem?_eq_some_iff.1 hj).1
      · rw [List.getElem?_append_right (by omega)] at hi
        rw [← hyl _ e hi]; exact (List.getElem?_eq_some_iff.1 hj).1
    have hl := idx_lt hin hjs
    have hxd : xs'.getD (i * sz + j) default = x := by
      obtain ⟨h7, h8⟩ := Array.getElem?_eq_some_iff.1 h4
      simp [Array.getD, h7, h8]
    refine ⟨.inr ⟨0, n + m, sz, false, shr, hμk, gk, by omega⟩, ?_, h6, ?_⟩
    · show World.cell? _ _ = some (xs'.getD (i * sz + j) default)
      rw [hxd, Nat.zero_add]; exact cell_of_heap hnew h4
    · show FRep _ _ c (xs'.getD (i * sz + j) default)
      rw [hxd]; exact M.frep h5
end
end Go.Proofs.YtmhdapjmndfkgaaGreatDoor.Eng
namespace Go.Proofs.YtmhdapjmndfkgaaGreatDoor.Eng
open Go Go.RowKit
section
variable {P : Program} {G : Nat → AV} {w0 w w' : World} {S0 : Sb} {T : List AV} {g g' : Key → Option Ob} {μ μ' ν : Key → Option (Nat × Nat)} {a : Act} {o : Oper} {r : R} {call : Call} {g0 : Key → Option Ob} {d j : Nat} {op : COp} {ow : Nat → Bool} {f : AV → AV} {σ σ' : St}
theorem Inv.forget (hI : Inv G w0 S0 T g μ a w) {k : Key} {n : Nat} {sz : Sz} {mu shr : Bool} (hk : g k = some (.tail n sz mu shr)) (hg' : ∀ k', g' k' = if k' = k then some (.tail n sz false shr) else g k') :
    Inv G w0 S0 T g' μ a w ∧ ∀ c x, LRep1 (mkC w0 S0 w g μ) c x → LRep1 (mkC w0 S0 w g' μ) c x := by
  have gk : g' k = some (.tail n sz false shr) := by rw [hg', if_pos rfl]
  have M : Mut id w0 S0 w g μ k w g' μ := by
    refine ⟨hI.below, Nat.le_refl _, fun b' i h => ⟨?_, rfl⟩, fun k' hk' => ⟨by rw [hg', if_neg hk', mapO_id]; simp, rfl⟩, fun k' b' base hk' h => rfl, by rw [gk]; rfl, fun b' base h => ⟨(hI.pl k b' base h).2.1, (hI.pl k b' base h).2.2, fun k' i hk' h' => hk' (hI.inj _ _ _ _ _ h' h)⟩, fun b' h => (hI.noRoot hk h).elim, fun _ _ h => h⟩
    rcases h with h | ⟨h4, h5, h6⟩
    · exact .inl h
    · refine .inr ⟨h4, h5, fun k' base hk' => ?_⟩
      rw [hg']
      split
      · rename_i he
        subst he
        have := h6 k' base hk'
        rw [hk] at this
        exact this
      · exact h6 k' base hk'
  have own : ∀ b' i, Own (mkC w0 S0 w g μ) k b' i → Own (mkC w0 S0 w g' μ) k b' i := by
    rintro b' i ⟨base, len, sz', mu', shr', h4, h5, h6⟩
    have h5 : g k = some (.tail len sz' mu' shr') := h5
    rw [hk] at h5
    cases h5
    exact ⟨base, n, sz, false, shr, h4, gk, h6⟩
  have sc : ∀ {b' i c x}, (Stab w0 S0 w g μ b' i ∨ Own (mkC w0 S0 w g μ) k b' i) ∧ w.cell? ⟨b', i, none⟩ = some x ∧ atom c = true ∧ FRep w (Stab w0 S0 w g μ) c x →
      (Stab w0 S0 w g' μ b' i ∨ Own (mkC w0 S0 w g' μ) k b' i) ∧ w.cell? ⟨b', i, none⟩ = some x ∧ atom c = true ∧ FRep w (Stab w0 S0 w g' μ) c x := by
    rintro b' i c x ⟨h4, h5, h6, h7⟩
    exact ⟨h4.imp (fun h => (M.S _ _ h).1) (own _ _), h5, h6, M.frep h7⟩
  have L : ∀ c x, LRep1 (mkC w0 S0 w g μ) c x → LRep1 (mkC w0 S0 w g' μ) (id c) x := by
    refine fun c x h => M.lrep1 (fun c _ _ _ _ => rfl) (fun es' x h => ?_) (fun o x h => ?_) (fun i o cs x h => ?_) (fun l0 n0 x h => ?_) h
    · obtain ⟨len, sz', mu', shr', h4, h5, h6, h7, h8⟩ := h
      have h4 : g k = some (.tail len sz' mu' shr') := h4
      rw [hk] at h4
      cases h4
      refine ⟨n, sz, false, shr, gk, h5, by simp, h7, ?_⟩
      rcases h8 with h8 | ⟨b', q', cap', X, h8, hkc, h9, h10⟩
      · exact .inl h8
      · exact .inr ⟨b', q', cap', X, h8, hkc, h9, fun i e j c he hc => sc (h10 i e j c he hc)⟩
    · obtain ⟨_, _, _, h4, _⟩ := h
      rw [show g k = _ from h4] at hk; cases hk
    · obtain ⟨b', q', len, sz', mu', shr', X, h4, h5, h6, h7⟩ := h
      have h4 : g k = some (.tail len sz' mu' shr') := h4
      rw [hk] at h4
      cases h4
      exact ⟨b', q', n, sz, false, shr, X, gk, h5, by simp, fun j c hc => sc (h7 j c hc)⟩
    · obtain ⟨a', o', cap', len, sz', mu', shr', h0, h4, h5⟩ := h
      have h4 : g k = some (.tail len sz' mu' shr') := h4
      rw [hk] at h4
      cases h4
      exact ⟨a', o', cap', n, sz, false, shr, h0, gk, by simp⟩
  have I1 := hI.mut M L (fun x h => by
    rw [gk] at h
    cases h
    exact ⟨by simp, (hI.ob k _ hk).2⟩)
  rw [mapT_id, List.map_id] at I1
  exact ⟨I1, L⟩
theorem app_core (hI : Inv G w0 S0 T g μ a w) {k : Key} {n bytes : Nat} {sz : Sz} {mu shr : Bool} {es ys : List (List AV)} {t tx ty e : TypeId} {y v z : Value} {ti : TypeInfo} (ht : P.underlying t = some (.slice e)) (hi : P.info? e = some ti) (hse : szOk sz e) (his : ti.size = sz) (hib : ti.bytes = bytes) (hb0 : 0 < bytes) (hz : ti.zero = some z) (hzs : z.cells.size = sz)
    (hk : g k = some (.tail n sz mu shr)) (hn : n = es.length) (hx : LRep1 (mkC w0 S0 w g μ) (.asl k es) y) (hyl : ∀ (i : Nat) (e : List AV), ys[i]? = some e → e.length = sz) {news : List Value} (hs : Src P sz tx v ys.length news w)
    (hys : ∀ (i : Nat) (e : List AV) (j : Nat) (c : AV), ys[i]? = some e → e[j]? = some c → ∃ x, news[i * sz + j]? = some x ∧ FRep w (Stab w0 S0 w g μ) c x ∧ atom c = true)
    (hlim : (es.length + ys.length) * bytes ≤ 70368744177664) (hg' : ∀ k', g' k' = if k' = k then some (.tail (n + ys.length) sz false shr) else g k') (d : Nat) :
    ∃ y' w' μ', (Builtin.append_ #[t, tx] ty #[y, v]).run P w = .ok y' w' ∧ Inv G w0 S0 (T.set d (.asl k (es ++ ys))) g' μ' (a.put (some d) y') w' := by
  obtain ⟨sz0, szt⟩ := sz
  have his : ti.size = sz0 := his
  subst his hib
  dsimp only at *
  have hlim' : es.length + ys.length ≤ 70368744177664 := Nat.le_trans (Nat.le_mul_of_pos_right _ hb0) hlim
  have hx0 := hx
  obtain ⟨len, sz, mu', shr', h1, h2, h3, hel, h5⟩ := hx
  have h1 : g k = some (.tail len sz mu' shr') := h1
  rw [hk] at h1
  cases h1
  dsimp only at hel h5
  have hnl := hs.newsLen
  have growCase : ∀ (base : Option Addr) (cap : Nat) (olds : List Value), (Builtin.firstCells ti.size es.length (.slice base es.length cap)).run P w.drew = .ok olds.toArray w.drew → LR w (Stab w0 S0 w g μ) ti.size es olds → cap < es.length + ys.length → es.length ≤ cap →
      ∃ y' w' μ', (Builtin.append_ #[t, tx] ty #[.slice base es.length cap, v]).run P w = .ok y' w' ∧ Inv G w0 S0 (T.set d (.asl k (es ++ ys))) g' μ' (a.put (some d) y') w' := by
    intro base cap olds hold hlr hgr hcap
    have hr := run_append_grow_src (P := P) w t tx ty e ti z ht hi hz base es.length cap olds hold v ys.length news hs hgr (by omega) (growslice_fits hgr (by omega))
    have hge := grownCap_ge w (es.length + ys.length) cap e
    have hsz : grownCap w (es.length + ys.length) cap e * ti.size ≤ ((olds ++ news).toArray ++ Builtin.zeroCells z.cells (grownCap w (es.length + ys.length) cap e - (es.length + ys.length))).size := by
      have hzl : (Builtin.zeroCells z.cells (grownCap w (es.length + ys.length) cap e - (es.length + ys.length))).size = (grownCap w (es.length + ys.length) cap e - (es.length + ys.length)) * ti.size := by
        simp [Builtin.zeroCells, hzs]
      rw [Array.size_append, hzl, List.size_toArray, List.length_append, hlr.1, hnl, ← Nat.add_mul, ← Nat.add_mul]
      apply Nat.mul_le_mul_right
      omega
    have hall : ∀ (i : Nat) (e : List AV) (j : Nat) (c : AV), (es ++ ys)[i]? = some e → e[j]? = some c → ∃ x, (olds ++ news)[i * ti.size + j]? = some x ∧ FRep w (Stab w0 S0 w g μ) c x ∧ atom c = true :=
      (hlr.append (⟨hnl, hys⟩ : LR w (Stab w0 S0 w g μ) ti.size ys news)).2
    have hm0 : 0 < ys.length := by omega
    obtain ⟨μ', hI'⟩ := hI.grow (t := e) (xs' := (olds ++ news).toArray ++ Builtin.zeroCells z.cells (grownCap w (es.length + ys.length) cap e - (es.length + ys.length))) hk hn rfl hm0 hsz hse (by omega) hel hyl (fun i e j c h6 h7 => by
      obtain ⟨x, h8, h9⟩ := hall i e j c h6 h7
      refine ⟨x, ?_, h9⟩
      rw [Array.getElem?_append_left (by rw [List.size_toArray]; exact (List.getElem?_eq_some_iff.1 h8).1), List.getElem?_toArray]
      exact h8) hg' d
    rw [hn] at hI'
    exact ⟨_, _, μ', hr, hI'⟩
  rcases h5 with ⟨rfl, rfl, h7⟩ | ⟨b, q, cap, X, rfl, hkc, h6, h7⟩
  · by_cases hm : ys.length = 0
    · have hys0 : ys = [] := List.length_eq_zero_iff.1 hm
      subst hys0
      obtain ⟨f1, f2⟩ := hI.forget hk (g' := g') (fun k' => by rw [hg']; simp)
      refine ⟨.slice none 0 0, w, μ, ?_, f1.put d ?_⟩
      · have hc := hs.cells
        have hl := hs.len
        simp only [List.length_nil] at hc hl
        rcases hs.kind with ⟨e', hk⟩ | hk <;> simp [Builtin.append_, run_underlying ht, run_underlying hk, sizeOf, typeInfo, hi, hl, hc]
      · have := f2 _ _ hx0
        rw [List.append_nil]
        exact this
    · refine growCase none 0 [] ?_ ⟨by simp, fun i e j c h => by simp at h⟩ (by simp; omega) (by simp)
      exact run_firstCells_none w.drew _ _ _ _
  · have hcell : ∀ m v, ((List.range (es.length * ti.size)).map fun m => X (m / ti.size) (m % ti.size))[m]? = some v → ∃ i j e c, m = i * ti.size + j ∧ es[i]? = some e ∧ e[j]? = some c ∧ v = X i j := by
      intro m v hm
      have hlt : m < es.length * ti.size := by simpa using (List.getElem?_eq_some_iff.1 hm).1
      have hsz : 0 < ti.size := Nat.pos_of_ne_zero fun h => by rw [h] at hlt; simp at hlt
      have hi : m / ti.size < es.length := by rw [Nat.div_lt_iff_lt_mul hsz]; exact hlt
      have hj : m % ti.size < ti.size := Nat.mod_lt _ hsz
      have he : es[m / ti.size]? = some es[m / ti.size] := List.getElem?_eq_getElem hi
      have hc : es[m / ti.size][m % ti.size]? = some (es[m / ti.size][m % ti.size]'(by rw [hel _ _ he]; exact hj)) := List.getElem?_eq_getElem _
      have hmm : m = m / ti.size * ti.size + m % ti.size := by have := Nat.div_add_mod m ti.size; rw [Nat.mul_comm] at this; exact this.symm
      refine ⟨m / ti.size, m % ti.size, _, _, hmm, he, hc, ?_⟩
      rw [List.getElem?_map, List.getElem?_range hlt] at hm
      simpa using hm.symm
    have hget : ∀ i j, i < es.length → j < ti.size → ((List.range (es.length * ti.size)).map fun m => X (m / ti.size) (m % ti.size))[i * ti.size + j]? = some (X i j) := by
      intro i j hi hj
      have hl := idx_lt hi hj
      rw [List.getElem?_map, List.getElem?_range hl]
      have h1 : (i * ti.size + j) / ti.size = i := by rw [Nat.mul_comm, Nat.mul_add_div (by omega), Nat.div_eq_of_lt hj]; omega
      have h2 : (i * ti.size + j) % ti.size = j := by rw [Nat.mul_comm, Nat.mul_add_mod]; exact Nat.mod_eq_of_lt hj
      simp [h1, h2]
    by_cases hroom : es.length + ys.length ≤ cap
    · by_cases hm : ys.length = 0
      · have hys0 : ys = [] := List.length_eq_zero_iff.1 hm
        subst hys0
        obtain ⟨f1, f2⟩ := hI.forget hk (g' := g') (fun k' => by rw [hg']; simp)
        refine ⟨.slice (some ⟨b, q, none⟩) es.length cap, w, μ, ?_, f1.put d ?_⟩
        · have hc := hs.cells
          have hl := hs.len
          have hn0 : news = [] := List.length_eq_zero_iff.1 (by rw [hnl]; simp)
          subst hn0
          simp only [List.length_nil] at hc hl
          rcases hs.kind with ⟨e', hk⟩ | hk <;> simp [Builtin.append_, run_underlying ht, run_underlying hk, sizeOf, typeInfo, hi, hl, hc, hkc, storeCells]
        · have := f2 _ _ hx0
          rw [List.append_nil]
          exact this
      · obtain ⟨h8, xs, ty', h9, h10⟩ := h6 hn.symm
        have h8 : μ k = some (b, q) := h8
        have h9 : w.heap[b]? = some (.cells xs ty' (0, 0)) := h9
        have hbound : q + es.length * ti.size + news.length ≤ xs.size := by
          have := Nat.mul_le_mul_right ti.size hroom
          rw [Nat.add_mul] at this
          omega
        have hr := run_append_row (P := P) (w := w) t tx ty e ti ht hi b q es.length cap v ys.length news hs hroom h9 hbound
        obtain ⟨e1, e2⟩ := cut_get (cs := xs.toList) (xs := news) (off := q + es.length * ti.size) (by rw [Array.length_toList]; exact hbound)
        have hI' := hI.room (xs' := (xs.toList.take (q + es.length * ti.size) ++ news ++ xs.toList.drop (q + es.length * ti.size + news.length)).toArray) hk hn rfl h8 h9 h10 (by omega)
          (by rw [List.size_toArray, e1, Array.length_toList]) (fun i hi => by
            rw [List.getElem?_toArray, e2, if_neg (by rw [hn] at hi; dsimp only at hi; omega), Array.getElem?_toList]) hel hyl (fun i e j c he hc => ?_) (fun i e j c he hc => ?_) hg' d
        · rw [hn] at hI'
          exact ⟨_, _, μ, hr, hI'⟩
        · obtain ⟨_, h12, h13, h14⟩ := h7 i e j c he hc
          refine ⟨X i j, ?_, h14, h13⟩
          have h12 : w.cell? ⟨b, q + (i * ti.size + j), none⟩ = some (X i j) := h12
          unfold World.cell? at h12
          rw [h9] at h12
          simpa using h12
        · obtain ⟨x, h12, h13⟩ := hys i e j c he hc
          refine ⟨x, ?_, h13⟩
          have hj : i * ti.size + j < news.length := (List.getElem?_eq_some_iff.1 h12).1
          dsimp only
          rw [List.getElem?_toArray, e2, if_pos (by rw [hn, Nat.add_mul]; omega), ← h12]
          congr 1
          rw [hn, Nat.add_mul]
          omega
    · refine growCase (some ⟨b, q, none⟩) cap ((List.range (es.length * ti.size)).map fun m => X (m / ti.size) (m % ti.size)) ?_ ⟨by simp, fun i e j c he hc => ?_⟩ (by omega) hkc
      · refine run_firstCells_some w.drew _ _ _ _ _ _ (by simp) fun m v hm => ?_
        obtain ⟨i, j, e, c, rfl, he, hc, rfl⟩ := hcell m v hm
        rw [addr_add]
        simpa [mkC] using (h7 i e j c he hc).2.1
      · obtain ⟨_, h12, h13, h14⟩ := h7 i e j c he hc
        refine ⟨X i j, hget i j (List.getElem?_eq_some_iff.1 he).1 (by rw [← hel i e he]; exact (List.getElem?_eq_some_iff.1 hc).1), h14, h13⟩
end
end Go.Proofs.YtmhdapjmndfkgaaGreatDoor.Eng
namespace Go.Proofs.YtmhdapjmndfkgaaGreatDoor.Eng
open Go Go.RowKit
section
variable {P : Program} {G : Nat → AV} {w0 w w' : World} {S0 : Sb} {T : List AV} {g g' : Key → Option Ob} {μ μ' ν : Key → Option (Nat × Nat)} {a : Act} {o : Oper} {r : R} {call : Call} {g0 : Key → Option Ob} {d j : Nat} {op : COp} {ow : Nat → Bool} {f : AV → AV} {σ σ' : St}
theorem getO_append (k : Key) : ∀ l m : List (Key × Ob), getO (l ++ m) k = (getO l k).or (getO m k)
  | [], m => by simp [getO]
  | (k0, x) :: l, m => by
    simp only [List.cons_append, getO]
    split
    · simp
    · exact getO_append k l m
theorem FRep.mono' {w : World} {S S' : Nat → Nat → Prop} (h : ∀ b i, S b i → S' b i) {c : AV} {x : Value} (hr : FRep w S c x) : FRep w S' c x := hr.mono fun b i hs => ⟨h b i hs, rfl⟩
theorem lenOk_get' {sz : Nat} {es : List (List AV)} (h : lenOk sz es = true) (i : Nat) (e : List AV) (hi : es[i]? = some e) : e.length = sz := by
  unfold lenOk at h
  have := List.all_eq_true.1 h e (List.mem_of_getElem? hi)
  simpa using this
theorem szG_sz {e : TypeId} {s : Sz} (h : szG P ow e = some s) : szT P e = some s.n ∧ szOk s e := by
  unfold szG at h
  obtain ⟨n, hn, rfl⟩ := Option.map_eq_some_iff.1 h
  refine ⟨hn, fun T' h => ?_⟩
  cases how : ow (10000000 + e) with
  | true => rw [how] at h; cases h; rfl
  | false => rw [how] at h; cases h
theorem m_app (hI : Inv G w0 S0 σ.t (getO σ.o) μ a w) {c : Go.Call} {x y : Operand} {t tx e : TypeId} {str : Bool} {s : Sz} {b : Nat} {z : List AV} (hc : c.callee = .builtin .append) (ha : c.args.toList = [x, y])
    (hat : c.argTypes.toList = [t, tx]) (ht : P.underlying t = some (.slice e)) (htx : (str = false ∧ ∃ e, P.underlying tx = some (.slice e)) ∨ (str = true ∧ P.underlying tx = some .string))
    (hs : szT P e = some s.n) (hse : szOk s e) (hb : bytesT P e = some b) (hz : zeroT P e = some z) (hzs : z.length = s) (hs0 : 0 < s.n) (hb0 : 0 < b) (ho : o.op = .call c) (hd : denM G σ o.dst (.app str s b (cX x) (cX y)) = some σ') : MRes P G w0 S0 σ' o a w := by
  obtain ⟨ti, hi, his, hib, zv, hzv, hzc⟩ : ∃ ti, P.info? e = some ti ∧ ti.size = s ∧ ti.bytes = b ∧ ∃ zv, ti.zero = some zv ∧ zv.cells.size = s := by
    unfold szT at hs; unfold bytesT at hb; unfold zeroT at hz
    cases hi : P.info? e with
    | none => rw [hi] at hs; cases hs
    | some ti =>
      rw [hi] at hs hb hz
      simp only [Option.map_some, Option.some.injEq, Option.bind_some] at hs hb hz
      refine ⟨ti, rfl, hs, hb, ?_⟩
      cases hz0 : ti.zero with
      | none => rw [hz0] at hz; cases hz
      | some v =>
        rw [hz0] at hz
        simp only [Option.bind_some] at hz
        split at hz
        · cases hz
          exact ⟨v, rfl, by simpa using hzs⟩
        · cases hz
  have hargs : c.argTypes = #[t, tx] := by cases hh : c.argTypes; simp_all
  simp only [denM] at hd
  cases hdst : o.dst with
  | none => rw [hdst] at hd; cases hd
  | some d =>
    rw [hdst] at hd
    simp only [Option.bind_eq_some_iff] at hd
    obtain ⟨ys, hys, hd⟩ := hd
    have fin : ∀ {y' w' μ'} {T' : List AV} {g' : Key → Option Ob}, (Builtin.append_ #[t, tx] o.type #[a.eval x, a.eval y]).run P w = .ok y' w' → Inv G w0 S0 T' g' μ' (a.put (some d) y') w' → T' = σ'.t → g' = getO σ'.o → MRes P G w0 S0 σ' o a w := by
      intro y' w' μ' T' g' hr hI' h1 h2
      subst h1 h2
      refine ⟨.value y', y', w', ?_, .inl rfl, μ', by rw [hdst]; exact hI'⟩
      refine two_args ho hc ha fun cs => ?_
      rw [hargs]
      simp [builtin, hr]
    split at hd
    · rename_i k es hx
      split at hd
      · rename_i n s' mu shr hk
        split at hd
        · rename_i hcond
          obtain ⟨hn, hss, hlim, hl⟩ := hcond
          cases hd
          obtain ⟨news, hsrc, hnews⟩ := src_of (P := P) (C := mkC w0 S0 w (getO σ.o) μ) rfl hs0 hys hl htx (hI.ev y)
          have hxr := hI.ev x
          rw [hx] at hxr
          obtain ⟨y', w', μ', hr, hI'⟩ := app_core hI (ty := o.type) (g' := getO (setO σ.o k (.tail (n + ys.length) s' false shr))) ht hi hse his hib hb0 hzv hzc (by rw [hk, hss]) hn hxr (lenOk_get' hl) hsrc hnews hlim (fun k' => by
            rw [getO_setO, hss]
            by_cases h : k = k'
            · subst h; simp
            · rw [if_neg h, if_neg (fun h' => h h'.symm)]) d
          exact fin hr hI' rfl rfl
        · cases hd
      · cases hd
    · rename_i hx
      split at hd
      · rename_i hcond
        obtain ⟨hlim, hl, hfr⟩ := hcond
        cases hd
        let k : Key := (d, countO d σ.o)
        let g1 : Key → Option Ob := fun k' => if k' = k then some (.tail 0 s false false) else getO σ.o k'
        have hxr := hI.ev x
        rw [hx] at hxr
        have hxr : a.eval x = .slice none 0 0 := hxr
        have E : Ext w0 S0 w (getO σ.o) μ w g1 μ := by
          refine ⟨hI.below.size, .refl _ _, fun k' y hy => ⟨y, ?_, .refl _⟩, fun k' _ => rfl, fun k' b' base h hg => ?_, hI.pl⟩
          · show (if k' = k then _ else _) = _
            rw [if_neg]
            · exact hy
            · rintro rfl; rw [hfr] at hy; cases hy
          · have := (hI.pl k' b' base h).1; rw [hg] at this; cases this
        have hμk : μ k = none := by
          cases hm : μ k with
          | none => rfl
          | some p => have := (hI.pl k p.1 p.2 hm).1; rw [hfr] at this; cases this
        have hI1 : Inv G w0 S0 σ.t g1 μ a w := hI.ext E hI.inj fun k' y h1 h2 => by
          by_cases he : k' = k
          · subst he
            simp [g1] at h2
            subst h2
            exact ⟨by simp, .inl ⟨hμk, rfl⟩⟩
          · simp only [g1, if_neg he] at h2
            rw [h1] at h2; cases h2
        obtain ⟨news, hsrc, hnews⟩ := src_of (P := P) (C := mkC w0 S0 w g1 μ) rfl hs0 hys hl htx (E.lrep (hI.ev y))
        have hg1k : g1 k = some (.tail 0 s false false) := by simp [g1]
        obtain ⟨y', w', μ', hr, hI'⟩ := app_core hI1 (k := k) (es := []) (ty := o.type) (y := .slice none 0 0) (g' := getO (σ.o ++ [(k, Ob.tail ys.length s false false)])) ht hi hse his hib hb0 hzv hzc hg1k rfl
          ⟨0, s, false, false, hg1k, by simp, by simp, fun i e h => by simp at h, .inl ⟨rfl, rfl, fun _ => hμk⟩⟩ (lenOk_get' hl) hsrc hnews (by simpa using hlim) (fun k' => by
            rw [getO_append]
            show _ = if k' = k then _ else if k' = k then _ else getO σ.o k'
            by_cases h : k = k'
            · subst h; rw [show getO σ.o k = none from hfr]; simp [getO]
            · rw [if_neg (fun h' => h h'.symm), if_neg (fun h' => h h'.symm)]
              simp [getO, h]) d
        rw [← hxr] at hr
        exact fin hr hI' rfl rfl
      · cases hd
    · cases hd
theorem subF_tag {k : Key} {c : AV} {T : TypeId} (h : subF k c = .bnil T) : c = .bnil T := by
  cases c <;> simp only [subF, reduceCtorEq] at h <;> first | exact h | (split at h <;> cases h)
theorem getO_map' (f : Ob → Ob) : ∀ (o : List (Key × Ob)) (k : Key), getO (o.map fun p => (p.1, f p.2)) k = (getO o k).map f
  | [], k => rfl
  | (k0, x) :: o, k => by
    simp only [List.map_cons, getO]
    split
    · rfl
    · exact getO_map' f o k
theorem Inv.cutb (hI : Inv G w0 S0 T g μ a w) {k : Key} {n b q cap : Nat} {sz : Sz} {mu : Bool} {es' : List (List AV)} {xs xs' : Array Value} {t : TypeId} (hk : g k = some (.tail n sz mu false)) (hμ : μ k = some (b, q)) (hx : w.heap[b]? = some (.cells xs t (0, 0))) (hs : xs'.size = xs.size)
    (hel : ∀ (i : Nat) (e : List AV), es'[i]? = some e → e.length = sz) (hlt : es'.length < n) (hcap : es'.length ≤ cap)
    (hall : ∀ (i : Nat) (e : List AV) (j : Nat) (c : AV), es'[i]? = some e → e[j]? = some c → ∃ x, xs'[q + (i * sz + j)]? = some x ∧ FRep w (Stab w0 S0 w g μ) c x ∧ atom c = true)
    (hg' : ∀ k', g' k' = if k' = k then some (.tail n sz false false) else (g k').map (mapO (subF k))) (d : Nat) :
    Inv G w0 S0 ((T.map (mapT (subF k))).set d (.asl k es')) g' μ (a.put (some d) (.slice (some ⟨b, q, none⟩) es'.length cap)) (w.setRow b xs') := by
  obtain ⟨h1, h2, h3⟩ := setRow_facts (ys := xs') hx
  have hpl := hI.pl k b q hμ
  have gk : g' k = some (.tail n sz false false) := by rw [hg', if_pos rfl]
  have nob : ∀ b' m, Stab w0 S0 w g μ b' m → b' ≠ b := by
    rintro b' m h rfl
    rcases h with ⟨h, _⟩ | ⟨_, _, h⟩
    · exact hpl.2.1.elim (fun h' => by omega) (fun h' => absurd h' h.2)
    · have := h k q hμ
      rw [hk] at this
      exact absurd this.1 (by simp)
  have M : Mut (subF k) w0 S0 w g μ k (w.setRow b xs') g' μ := by
    refine ⟨below_setRow hI.below hx hpl.2.1, by omega, fun b' m h => ⟨?_, by unfold World.cell?; rw [h3 b' (nob b' m h)]⟩, fun k' hk' => ⟨by rw [hg', if_neg hk'], rfl⟩, fun k' b' base' hk' h => ?_, by rw [gk]; rfl, fun b' base' h => ⟨(hI.pl k b' base' h).2.1, by rw [h2]; exact (hI.pl k b' base' h).2.2, fun k' m hk' h' => hk' (hI.inj _ _ _ _ _ h' h)⟩, fun b' h => (hI.noRoot hk h).elim, fun c T h => subF_tag h⟩
    · rcases h with h | ⟨h4, h5, h6⟩
      · exact .inl h
      · refine .inr ⟨h4, by rw [h2]; exact h5, fun k' base' hk' => ?_⟩
        have h7 := h6 k' base' hk'
        rw [hg']
        split
        · rename_i he
          subst he
          rw [hk] at h7
          exact absurd h7.1 (by simp)
        · cases hg0 : g k' with
          | none => rw [hg0] at h7; exact h7
          | some x => rw [hg0] at h7; cases x <;> exact h7
    · refine h3 b' ?_
      rintro rfl
      exact hk' (hI.inj _ _ _ _ _ h hμ)
  have L : ∀ c x, LRep1 (mkC w0 S0 w g μ) c x → LRep1 (mkC w0 S0 (w.setRow b xs') g' μ) (subF k c) x := by
    refine fun c x h => M.lrep1 (fun c h1 _ h3 h4 => ?_) (fun es x h => ?_) (fun o x h => ?_) (fun i' o cs x h => ?_) (fun l0 n0 x h => ?_) h
    · cases c with
      | asl k' es =>
        have : k' ≠ k := fun e => h1 es (by rw [e])
        simp [subF, this]
      | eptr k' i' o' cs =>
        have : k' ≠ k := fun e => h3 i' o' cs (by rw [e])
        simp [subF, this]
      | sub k' l' n' =>
        have : k' ≠ k := fun e => h4 l' n' (by rw [e])
        simp [subF, this]
      | _ => rfl
    · have : subF k (.asl k es) = .undef := by simp [subF]
      rw [this]; trivial
    · obtain ⟨_, _, _, h4, _⟩ := h
      rw [show g k = _ from h4] at hk; cases hk
    · have : subF k (.eptr k i' o cs) = .undef := by simp [subF]
      rw [this]; trivial
    · have : subF k (.sub k l0 n0) = .undef := by simp [subF]
      rw [this]; trivial
  have hroom : q + n * sz ≤ xs.size := by
    rcases (hI.ob k _ hk).2 with ⟨h4, _⟩ | ⟨b', base', xs1, T1, h4, h5, h6⟩
    · have h4 : μ k = none := h4
      rw [hμ] at h4; cases h4
    · have h4 : μ k = some (b', base') := h4
      have h5 : w.heap[b']? = some (.cells xs1 T1 (0, 0)) := h5
      rw [hμ] at h4
      cases h4
      rw [hx] at h5
      cases h5
      exact h6.1
  have I1 := hI.mut M L (fun x h => by
    rw [gk] at h
    cases h
    exact ⟨by simp, .inr ⟨b, q, xs', t, hμ, h1, by rw [hs]; exact hroom, hI.tySz hk hμ hx⟩⟩)
  refine I1.put d ?_
  refine ⟨n, sz, false, false, gk, Nat.le_of_lt hlt, by simp, hel, .inr ⟨b, q, cap, fun i j => xs'.getD (q + (i * sz + j)) default, rfl, hcap, fun h => by omega, fun i e j c hi hj => ?_⟩⟩
  obtain ⟨x, h4, h5, h6⟩ := hall i e j c hi hj
  have hin : i < es'.length := (List.getElem?_eq_some_iff.1 hi).1
  have hjs : j < sz := by rw [← hel i e hi]; exact (List.getElem?_eq_some_iff.1 hj).1
  have hl := idx_lt (show i < n by omega) hjs
  have hxd : xs'.getD (q + (i * sz + j)) default = x := by
    obtain ⟨h7, h8⟩ := Array.getElem?_eq_some_iff.1 h4
    simp [Array.getD, h7, h8]
  refine ⟨.inr ⟨q, n, sz, false, false, hμ, gk, by omega⟩, ?_, h6, ?_⟩
  · show World.cell? _ _ = some (xs'.getD (q + (i * sz + j)) default)
    rw [hxd]; exact cell_of_heap h1 h4
  · show FRep _ _ c (xs'.getD (q + (i * sz + j)) default)
    rw [hxd]; exact M.frep h5
theorem m_cut (hI : Inv G w0 S0 σ.t (getO σ.o) μ a w) {c : Go.Call} {x y : Operand} {t tx e : TypeId} {s0 b q : Nat} {st : Option TypeId} {z : List AV} (hc : c.callee = .builtin .append) (ha : c.args.toList = [x, y])
    (hat : c.argTypes.toList = [t, tx]) (ht : P.underlying t = some (.slice e)) (htx : ∃ e, P.underlying tx = some (.slice e))
    (hs : szT P e = some s0) (hb : bytesT P e = some b) (hz : zeroT P e = some z) (hzs : z.length = s0) (hs0 : 0 < s0) (hb0 : 0 < b) (ho : o.op = .call c) (hd : denM G σ o.dst (.cut ⟨s0, st⟩ b (.t q) (cX x) (cX y)) = some σ') : MRes P G w0 S0 σ' o a w := by
  obtain ⟨ti, hi, his⟩ : ∃ ti, P.info? e = some ti ∧ ti.size = s0 := by
    unfold szT at hs
    cases hi : P.info? e with
    | none => rw [hi] at hs; cases hs
    | some ti =>
      rw [hi] at hs
      exact ⟨ti, rfl, by simpa using hs⟩
  subst his
  have hargs : c.argTypes = #[t, tx] := by cases hh : c.argTypes; simp_all
  simp only [denM] at hd
  cases hdst : o.dst with
  | none => rw [hdst] at hd; cases hd
  | some d =>
    rw [hdst] at hd
    obtain ⟨r, hr, hd⟩ := Option.map_eq_some_iff.1 hd
    unfold cutV at hr
    split at hr
    · rename_i k es k1 l1 m1 k2 l2 m2 hS hX hY
      split at hr
      · rename_i n z' hk
        split at hr
        · rename_i hcond
          obtain ⟨e1, e2, rfl, hz', rfl, hlt, hle, hlen, _⟩ := hcond
          have e1 := e1.symm
          have e2 := e2.symm
          subst e1 e2
          cases hr
          subst hd
          subst hz'
          have hxr := hI.ev x
          rw [hX] at hxr
          obtain ⟨b1, o1, cap1, len1, sz1, mu1, shr1, x1, x2, x3⟩ := hxr
          have hyr := hI.ev y
          rw [hY] at hyr
          obtain ⟨b2, o2, cap2, len2, sz2, mu2, shr2, y1, y2, y3⟩ := hyr
          have hSr := hI.ev (.tmp q)
          rw [show Eng.ev σ.t G (cX (.tmp q)) = _ from hS] at hSr
          let g1 : Key → Option Ob := fun k' => if k' = k then some (.tail es.length ⟨ti.size, st⟩ false false) else getO σ.o k'
          have g1k : g1 k = some (.tail es.length ⟨ti.size, st⟩ false false) := by simp [g1]
          obtain ⟨I1, L1⟩ := hI.forget hk (g' := g1) (fun k' => rfl)
          obtain ⟨len3, sz3, mu3, shr3, s1, s2, s3, s4, s5⟩ := hSr
          have x2 : getO σ.o k = _ := x2
          have y2 : getO σ.o k = _ := y2
          have s1 : getO σ.o k = _ := s1
          rw [hk] at x2 y2 s1
          cases x2; cases y2; cases s1
          dsimp only at s4
          rcases s5 with ⟨_, s5, _⟩ | ⟨b3, o3, cap3, X, s5, s6, s7, s8⟩
          · subst s5; simp at hlt
          obtain ⟨s9, xs, ty', s10, s11⟩ := s7 rfl
          have s9 : μ k = some (b3, o3) := s9
          have s10 : w.heap[b3]? = some (.cells xs ty' (0, 0)) := s10
          obtain ⟨base1, x4, x5, x6, x7⟩ := x3 rfl
          have x4 : μ k = some (b1, base1) := x4
          rw [s9] at x4
          obtain ⟨rfl, rfl⟩ : b3 = b1 ∧ o3 = base1 := by cases x4; exact ⟨rfl, rfl⟩
          obtain rfl : o1 = o3 := by rcases x5 with h | ⟨_, h⟩ <;> omega
          obtain ⟨base2, y4, y5, y6, y7⟩ := y3 rfl
          have y4 : μ k = some (b2, base2) := y4
          rw [s9] at y4
          obtain ⟨rfl, rfl⟩ : b3 = b2 ∧ o1 = base2 := by cases y4; exact ⟨rfl, rfl⟩
          have hroom : o1 + es.length * ti.size ≤ xs.size := Nat.le_trans (Nat.add_le_add_left (Nat.mul_le_mul_right _ s6) _) s11
          have e2l : ((es.drop l2).take m2).length = m2 := by rw [List.length_take, List.length_drop]; omega
          have e2g : ∀ (i : Nat) (e : List AV), ((es.drop l2).take m2)[i]? = some e → es[l2 + i]? = some e := by
            intro i e he
            have : i < m2 := by rw [← e2l]; exact (List.getElem?_eq_some_iff.1 he).1
            rw [List.getElem?_take_of_lt this, List.getElem?_drop] at he
            exact he
          have hS1 : LRep1 (mkC w0 S0 w g1 μ) (.asl k es) (.slice (some ⟨b3, o1, none⟩) es.length cap3) := L1 _ _ ⟨es.length, ⟨ti.size, st⟩, true, false, hk, Nat.le_refl _, fun _ => rfl, s4, .inr ⟨b3, o1, cap3, X, rfl, s6, fun _ => ⟨s9, xs, ty', s10, s11⟩, s8⟩⟩
          obtain ⟨len4, sz4, mu4, shr4, t1, t2, t3, t4, t5⟩ := hS1
          have t1 : g1 k = _ := t1
          rw [g1k] at t1
          cases t1
          rcases t5 with ⟨t5, _⟩ | ⟨b4, o4, cap4, X4, t5, t6, t7, t8⟩
          · cases t5
          cases t5
          have hcell : ∀ (i : Nat) (e : List AV) (j : Nat) (c : AV), es[i]? = some e → e[j]? = some c → xs[o1 + (i * ti.size + j)]? = some (X4 i j) := by
            intro i e j c he hc
            have h := (t8 i e j c he hc).2.1
            have h : w.cell? ⟨b3, o1 + (i * ti.size + j), none⟩ = some (X4 i j) := h
            unfold World.cell? at h
            rw [s10] at h
            simpa using h
          have hy4 : LRep (mkC w0 S0 w g1 μ) (.asl k ((es.drop l2).take m2)) (a.eval y) := by
            show LRep1 (mkC w0 S0 w g1 μ) (.asl k ((es.drop l2).take m2)) (a.eval y)
            refine ⟨es.length, ⟨ti.size, st⟩, false, false, g1k, by omega, by simp, fun i e he => s4 _ e (e2g i e he), .inr ⟨b3, o2, cap2, fun i j => X4 (l2 + i) j, by rw [y1, e2l], by omega, fun h => by omega, fun i e j c he hc => ?_⟩⟩
            have hi : i < m2 := by rw [← e2l]; exact (List.getElem?_eq_some_iff.1 he).1
            obtain rfl : o2 = o1 + l2 * ti.size := by rcases y5 with h | ⟨h, _⟩ <;> omega
            have := t8 _ e j c (e2g i e he) hc
            rw [show o1 + ((l2 + i) * ti.size + j) = o1 + l2 * ti.size + (i * ti.size + j) by rw [Nat.add_mul]; omega] at this
            exact this
          have hl2 : lenOk ti.size ((es.drop l2).take m2) = true := by
            unfold lenOk
            rw [List.all_eq_true]
            intro e he
            obtain ⟨i, hi, rfl⟩ := List.mem_iff_getElem.1 he
            simpa using s4 _ _ (e2g i _ (List.getElem?_eq_getElem hi))
          obtain ⟨news, hsrc, hnews⟩ := src_of (P := P) (C := mkC w0 S0 w g1 μ) (str := false) rfl hs0 (show srcOf false ti.size (.asl k ((es.drop l2).take m2)) = some ((es.drop l2).take m2) from rfl) hl2 (.inl ⟨rfl, htx⟩) hy4
          have hnl := hsrc.newsLen
          rw [e2l] at hsrc hnl
          have hmn := Nat.mul_le_mul_right ti.size (show m1 + m2 ≤ es.length by omega)
          rw [Nat.add_mul] at hmn
          have hbound : o1 + m1 * ti.size + news.length ≤ xs.size := by rw [hnl]; omega
          have hrun := run_append_row (P := P) (w := w) t tx o.type e ti ht hi b3 o1 m1 cap1 (a.eval y) m2 news hsrc (by omega) s10 hbound
          obtain ⟨c1, c2⟩ := cut_get (cs := xs.toList) (xs := news) (off := o1 + m1 * ti.size) (by rw [Array.length_toList]; exact hbound)
          have hel' : (es.take m1 ++ (es.drop l2).take m2).length = m1 + m2 := by rw [List.length_append, e2l, List.length_take]; omega
          have hfin := I1.cutb (es' := es.take m1 ++ (es.drop l2).take m2) (cap := cap1) (xs' := (xs.toList.take (o1 + m1 * ti.size) ++ news ++ xs.toList.drop (o1 + m1 * ti.size + news.length)).toArray) (g' := getO (setO (σ.o.map fun p => (p.1, mapO (subF k) p.2)) k (.tail es.length ⟨ti.size, st⟩ false false))) g1k s9 s10
            (by rw [List.size_toArray, c1, Array.length_toList]) (fun i e he => ?_) (by omega) (by omega) (fun i e j c he hc => ?_) (fun k' => ?_) d
          · rw [hel'] at hfin
            refine ⟨.value _, _, _, ?_, .inl rfl, μ, by rw [hdst]; exact hfin⟩
            refine two_args ho hc ha fun cs => ?_
            rw [hargs]
            rw [← x1] at hrun
            simp [builtin, hrun]
          · by_cases hi1 : i < (es.take m1).length
            · rw [List.getElem?_append_left hi1] at he
              have : i < m1 := by rw [List.length_take] at hi1; omega
              rw [List.getElem?_take_of_lt this] at he
              exact s4 i e he
            · rw [List.getElem?_append_right (by omega)] at he
              exact s4 _ e (e2g _ e he)
          · have htl : (es.take m1).length = m1 := by rw [List.length_take]; omega
            by_cases hi1 : i < m1
            · rw [List.getElem?_append_left (by omega), List.getElem?_take_of_lt hi1] at he
              have hj : j < ti.size := by rw [← s4 i e he]; exact (List.getElem?_eq_some_iff.1 hc).1
              have hl := idx_lt hi1 hj
              refine ⟨X4 i j, ?_, (t8 i e j c he hc).2.2.2, (t8 i e j c he hc).2.2.1⟩
              dsimp only
              rw [List.getElem?_toArray, c2, if_neg (by omega), Array.getElem?_toList]
              exact hcell i e j c he hc
            · rw [List.getElem?_append_right (by omega), htl] at he
              obtain ⟨v, h1, h2, h3⟩ := hnews (i - m1) e j c he hc
              refine ⟨v, ?_, h2, h3⟩
              have hv : (i - m1) * ti.size + j < news.length := (List.getElem?_eq_some_iff.1 h1).1
              have hm : i * ti.size = m1 * ti.size + (i - m1) * ti.size := by rw [← Nat.add_mul]; congr 1; omega
              dsimp only
              rw [List.getElem?_toArray, c2, if_pos (by omega), ← h1]
              congr 1
              omega
          · rw [getO_setO, getO_map']
            by_cases h : k = k'
            · subst h; simp
            · rw [if_neg h, if_neg (fun h' => h h'.symm)]
              show _ = Option.map _ (if k' = k then _ else _)
              rw [if_neg (fun h' => h h'.symm)]
        · cases hr
      · cases hr
    · cases hr
end
end Go.Proofs.YtmhdapjmndfkgaaGreatDoor.Eng
namespace Go.Proofs.YtmhdapjmndfkgaaGreatDoor.Eng
open Go Go.RowKit
theorem sealObj_idem (x : Ob) : sealObj (sealObj x) = sealObj x := by cases x <;> rfl
theorem getO_seal1 (o : List (Key × Ob)) (k0 k : Key) : getO (seal1 o k0) k = if k0 = k then (getO o k).map sealObj else getO o k := by
  unfold seal1
  cases hg : getO o k0 with
  | none =>
    by_cases h : k0 = k
    · subst h; simp [hg]
    · simp [h]
  | some x =>
    simp only [getO_setO]
    by_cases h : k0 = k
    · subst h; simp [hg]
    · simp [h]
theorem getO_sealO : ∀ (ks : List Key) (o : List (Key × Ob)) (k : Key), getO (sealO o ks) k = if ks.contains k then (getO o k).map sealObj else getO o k
  | [], o, k => by simp [sealO]
  | k0 :: ks, o, k => by
    simp only [sealO]
    rw [getO_sealO ks, getO_seal1]
    by_cases h : k0 = k
    · subst h
      cases getO o k0 with
      | none => simp
      | some x => simp [sealObj_idem]
    · have : (k0 :: ks).contains k = ks.contains k := by
        rw [List.contains_cons]
        have : (k == k0) = false := by simpa using fun e => h e.symm
        rw [this, Bool.false_or]
      rw [this, if_neg h]
theorem getO_map (f : Ob → Ob) : ∀ (o : List (Key × Ob)) (k : Key), getO (o.map fun p => (p.1, f p.2)) k = (getO o k).map f
  | [], k => rfl
  | (k0, x) :: o, k => by
    simp only [List.map_cons, getO]
    split
    · rfl
    · exact getO_map f o k
theorem getO_app (o new : List (Key × Ob)) (ks : List Key) : getO (sealO (o ++ new) ks) = gx (getO o) new ks := by
  funext k
  rw [getO_sealO, getO_append]
  rfl
theorem putA_eq (k : Key) (i off : Nat) (xs : List AV) (c : AV) : putA k i off xs c = mapA (put1 k i off xs) c := by cases c <;> rfl
theorem putT_eq (k : Key) (i off : Nat) (xs : List AV) (c : AV) : putT k i off xs c = mapT (put1 k i off xs) c := by
  cases c with
  | tup vs => simp only [putT, mapT, AV.tup.injEq]; exact List.map_congr_left fun c _ => putA_eq k i off xs c
  | _ => rfl
theorem putO_eq (k : Key) (i off : Nat) (xs : List AV) (x : Ob) : putO k i off xs x = mapO (put1 k i off xs) x := by cases x <;> rfl
theorem seal_mapO (f : AV → AV) (x : Ob) : sealObj (mapO f x) = mapO f (sealObj x) := by cases x <;> rfl
section
variable {P : Program} {G : Nat → AV} {w0 w w' : World} {S0 : Sb} {T : List AV} {g g' : Key → Option Ob} {μ μ' ν : Key → Option (Nat × Nat)} {a : Act} {o : Oper} {r : R} {call : Call} {g0 : Key → Option Ob} {d j : Nat} {op : COp} {ow : Nat → Bool} {f : AV → AV} {σ σ' : St}
theorem put1_tag {k : Key} {i off : Nat} {xs : List AV} {c : AV} {T : TypeId} (h : put1 k i off xs c = .bnil T) : c = .bnil T := by
  cases c with
  | asl k' es => simp only [put1] at h; split at h <;> first | (cases h; done) | (split at h <;> cases h)
  | eptr k' i' o cs => simp only [put1] at h; split at h <;> cases h
  | _ => exact h
theorem Inv.setEl (hI : Inv G w0 S0 T g μ a w) {k : Key} {len base b i off : Nat} {sz : Sz} {shr : Bool} {ys : List AV} {xs xs' : Array Value} {t : TypeId} (hk : g k = some (.tail len sz true shr)) (hμ : μ k = some (b, base)) (hx : w.heap[b]? = some (.cells xs t (0, 0)))
    (hi : i < len) (hoff : off + ys.length ≤ sz) (hs : xs'.size = xs.size)
    (hold : ∀ m, ¬ (base + (i * sz + off) ≤ m ∧ m < base + (i * sz + off) + ys.length) → xs'[m]? = xs[m]?)
    (hys : ∀ (j : Nat) (c : AV), ys[j]? = some c → ∃ x, xs'[base + (i * sz + off) + j]? = some x ∧ FRep w (Stab w0 S0 w g μ) c x ∧ atom c = true)
    (hg' : ∀ k', g' k' = (g k').map (mapO (put1 k i off ys))) : Inv G w0 S0 (T.map (mapT (put1 k i off ys))) g' μ a (w.setRow b xs') := by
  obtain ⟨h1, h2, h3⟩ := setRow_facts (ys := xs') hx
  have hpl := hI.pl k b base hμ
  have hshr : shr = false := (hI.ob k _ hk).1 rfl
  subst hshr
  have gk : g' k = some (.tail len sz true false) := by rw [hg', hk]; rfl
  have nob : ∀ b' m, Stab w0 S0 w g μ b' m → b' ≠ b := by
    rintro b' m h rfl
    rcases h with ⟨h, _⟩ | ⟨_, _, h⟩
    · exact hpl.2.1.elim (fun h' => by omega) (fun h' => absurd h' h.2)
    · have := h k base hμ
      rw [hk] at this
      exact absurd this.1 (by simp)
  have M : Mut (put1 k i off ys) w0 S0 w g μ k (w.setRow b xs') g' μ := by
    refine ⟨below_setRow hI.below hx hpl.2.1, by omega, fun b' m h => ⟨?_, by unfold World.cell?; rw [h3 b' (nob b' m h)]⟩, fun k' hk' => ⟨hg' k', rfl⟩, fun k' b' base' hk' h => ?_, by rw [gk]; rfl, fun b' base' h => ⟨(hI.pl k b' base' h).2.1, by rw [h2]; exact (hI.pl k b' base' h).2.2, fun k' m hk' h' => hk' (hI.inj _ _ _ _ _ h' h)⟩, fun b' h => (hI.noRoot hk h).elim, fun c T h => put1_tag h⟩
    · have hne := nob b' m h
      rcases h with h | ⟨h4, h5, h6⟩
      · exact .inl h
      · refine .inr ⟨h4, by rw [h2]; exact h5, fun k' base' hk' => ?_⟩
        have h7 := h6 k' base' hk'
        rw [hg']
        cases hg0 : g k' with
        | none => rw [hg0] at h7; exact h7
        | some x => rw [hg0] at h7; cases x <;> exact h7
    · refine h3 b' ?_
      rintro rfl
      exact hk' (hI.inj _ _ _ _ _ h hμ)
  have own : ∀ b' m, Own (mkC w0 S0 w g μ) k b' m → b' = b ∧ m < base + len * sz ∧ Own (mkC w0 S0 (w.setRow b xs') g' μ) k b' m := by
    rintro b' m ⟨base', len', sz', mu', shr', h4, h5, h6⟩
    have h4 : μ k = some (b', base') := h4
    have h5 : g k = some (.tail len' sz' mu' shr') := h5
    rw [hμ] at h4
    rw [hk] at h5
    cases h4; cases h5
    exact ⟨rfl, h6, ⟨base, len, sz, true, false, hμ, gk, h6⟩⟩
  have L : ∀ c x, LRep1 (mkC w0 S0 w g μ) c x → LRep1 (mkC w0 S0 (w.setRow b xs') g' μ) (put1 k i off ys c) x := by
    refine fun c x h => M.lrep1 (fun c h1 h2 h3 _ => ?_) (fun es x h => ?_) (fun o x h => ?_) (fun i' o cs x h => ?_) (fun l0 n0 x h => ?_) h
    · cases c with
      | asl k' es =>
        have : k' ≠ k := fun e => h1 es (by rw [e])
        simp [put1, this]
      | eptr k' i' o' cs =>
        have : k' ≠ k := fun e => h3 i' o' cs (by rw [e])
        simp [put1, this]
      | _ => rfl
    · obtain ⟨len', sz', mu', shr', h4, h5, h6, h7, h8⟩ := h
      have h4 : g k = some (.tail len' sz' mu' shr') := h4
      rw [hk] at h4
      cases h4
      have hel := h6 rfl
      have hie : i < es.length := by omega
      have hi1 : es[i]? = some es[i] := List.getElem?_eq_getElem hie
      have hl1 := h7 _ _ hi1
      obtain ⟨e1, e2⟩ := splice_get (cs := es[i]) (off := off) (xs := ys) (by rw [hl1]; exact hoff)
      have hp : put1 k i off ys (.asl k es) = .asl k (es.set i (splice es[i] off ys)) := by simp [put1, hi1]
      rw [hp]
      refine ⟨len, sz, true, false, gk, by rw [List.length_set]; exact h5, fun _ => by rw [List.length_set]; exact hel, fun i' e he => ?_, ?_⟩
      · rw [List.getElem?_set] at he
        split at he
        · cases he; rw [e1]; exact hl1
        · exact h7 i' e he
      · rcases h8 with ⟨_, h8, _⟩ | ⟨b', q', cap', X, h8, hkc, h9, h10⟩
        · rw [h8] at hie; simp at hie
        · obtain ⟨h11, xs1, T1, h12, h13⟩ := h9 hel
          have h11 : μ k = some (b', q') := h11
          have h12 : w.heap[b']? = some (.cells xs1 T1 (0, 0)) := h12
          rw [hμ] at h11
          cases h11
          rw [hx] at h12
          cases h12
          refine .inr ⟨b, base, cap', fun i' j' => xs'.getD (base + (i' * sz + j')) default, by rw [List.length_set]; exact h8, by rw [List.length_set]; exact hkc, fun _ => ⟨hμ, xs', t, h1, by rw [hs]; exact h13⟩, fun i' e j' c he hc => ?_⟩
          have hin : i' < es.length := by
            have := (List.getElem?_eq_some_iff.1 he).1
            rwa [List.length_set] at this
          have key : ∃ y, xs'[base + (i' * sz + j')]? = some y ∧ FRep w (Stab w0 S0 w g μ) c y ∧ atom c = true ∧ j' < sz := by
            have old : ∀ e0, es[i']? = some e0 → e0[j']? = some c → ¬ (i' = i ∧ off ≤ j' ∧ j' < off + ys.length) → ∃ y, xs'[base + (i' * sz + j')]? = some y ∧ FRep w (Stab w0 S0 w g μ) c y ∧ atom c = true ∧ j' < sz := by
              intro e0 he0 hc0 hne
              have hj : j' < sz := by rw [← h7 _ _ he0]; exact (List.getElem?_eq_some_iff.1 hc0).1
              obtain ⟨_, h14, h15, h16⟩ := h10 i' e0 j' c he0 hc0
              have h14 : w.cell? ⟨b, base + (i' * sz + j'), none⟩ = some (X i' j') := h14
              refine ⟨X i' j', ?_, h16, h15, hj⟩
              rw [hold]
              · unfold World.cell? at h14
                rw [hx] at h14
                simpa using h14
              · rintro ⟨h17, h18⟩
                have hd : ∃ d, d < ys.length ∧ i' * sz + j' = i * sz + (off + d) := ⟨i' * sz + j' - (i * sz + off), by omega, by omega⟩
                obtain ⟨d, hd1, hd2⟩ := hd
                obtain ⟨h19, h20⟩ := mul_idx hj (show off + d < sz by omega) hd2
                exact hne ⟨h19, by omega, by omega⟩
            rw [List.getElem?_set] at he
            by_cases hii : i = i'
            · subst hii
              rw [if_pos rfl, if_pos hie] at he
              cases he
              rw [e2] at hc
              by_cases hin2 : off ≤ j' ∧ j' < off + ys.length
              · rw [if_pos hin2] at hc
                obtain ⟨y, h14, h15, h16⟩ := hys _ _ hc
                refine ⟨y, ?_, h15, h16, by omega⟩
                rw [← h14]
                congr 1
                omega
              · rw [if_neg hin2] at hc
                exact old _ hi1 hc fun h => hin2 h.2
            · rw [if_neg hii] at he
              exact old _ he hc fun h => hii h.1.symm
          obtain ⟨y, h14, h15, h16, hj⟩ := key
          have hl := idx_lt hin hj
          have hxd : xs'.getD (base + (i' * sz + j')) default = y := by
            obtain ⟨h7, h8⟩ := Array.getElem?_eq_some_iff.1 h14
            simp [Array.getD, h7, h8]
          refine ⟨.inr ⟨base, len, sz, true, false, hμ, gk, by rw [hel] at hl; omega⟩, ?_, h16, ?_⟩
          · show World.cell? _ _ = some (xs'.getD (base + (i' * sz + j')) default)
            rw [hxd]; exact cell_of_heap h1 h14
          · show FRep _ _ c (xs'.getD (base + (i' * sz + j')) default)
            rw [hxd]; exact M.frep h15
    · obtain ⟨_, _, _, h4, _⟩ := h
      rw [show g k = _ from h4] at hk; cases hk
    · have : put1 k i off ys (.eptr k i' o cs) = .undef := by simp [put1]
      rw [this]; trivial
    · obtain ⟨a', o1, cap', len', sz', mu', shr', h0, h4, h5⟩ := h
      have h4 : g k = some (.tail len' sz' mu' shr') := h4
      rw [hk] at h4
      cases h4
      exact ⟨a', o1, cap', len, sz, true, false, h0, gk, h5⟩
  refine hI.mut M L (fun x h => ?_)
  rw [gk] at h
  cases h
  refine ⟨fun _ => rfl, ?_⟩
  rcases (hI.ob k _ hk).2 with ⟨h4, _⟩ | ⟨b', base', xs1, T1, h4, h5, h6⟩
  · have h4 : μ k = none := h4
    rw [hμ] at h4; cases h4
  · have h4 : μ k = some (b', base') := h4
    have h5 : w.heap[b']? = some (.cells xs1 T1 (0, 0)) := h5
    rw [hμ] at h4
    cases h4
    rw [hx] at h5
    cases h5
    exact .inr ⟨b, base, xs', t, hμ, h1, by rw [hs]; exact h6⟩
theorem m_stE (hI : Inv G w0 S0 σ.t (getO σ.o) μ a w) {t : TypeId} {n i off : Nat} {p x : Operand} {k : Key} {cs : List AV} {l : Nat} {s : Sz} {sh : Bool} {y : AV} (hn : szT P t = some n) (ho : o.op = .store t p x)
    (hp : Eng.ev σ.t G (cX p) = .eptr k i off cs) (hk : getO σ.o k = some (.tail l s true sh)) (hy : frz (Eng.ev σ.t G (cX x)) = some y) (hl : (cellsOf y).length = n) (hle : n ≤ cs.length) (hks : (keys (Eng.ev σ.t G (cX x))).contains k = false) :
    MRes P G w0 S0 (St.put { t := σ.t.map (putT k i off (cellsOf y)), o := sealO (σ.o.map fun p => (p.1, putO k i off (cellsOf y) p.2)) (keys (Eng.ev σ.t G (cX x))) } o.dst (.tup [])) o a w := by
  generalize hkk : keys (Eng.ev σ.t G (cX x)) = ks at hks ⊢
  have E := hI.gxE (new := []) (ν := fun _ => none) ks (Below.refl _ _) (fun k b base h => by cases h)
  rw [hI.μx_none] at E
  have hI1 : Inv G w0 S0 σ.t (gx (getO σ.o) [] ks) μ a w := hI.ext E hI.inj fun k x h1 h2 => by rw [gx_none h1] at h2; cases h2
  have hyr : FRep w (Stab w0 S0 w (gx (getO σ.o) [] ks) μ) y (a.eval x) := frz_rep E hI.inj hy (fun k' hk' z hz => by rw [hkk] at hk'; simp [gx, hz, hk']) (hI.ev x)
  have hk1 : gx (getO σ.o) [] ks k = some (.tail l s true sh) := by
    unfold gx
    rw [hks, hk]
    rfl
  have hpr := hI1.ev p
  rw [hp] at hpr
  obtain ⟨b, q, l', s', mu', sh', X, h1, h2, h3, h4⟩ := hpr
  have h1 : gx (getO σ.o) [] ks k = some (.tail l' s' mu' sh') := h1
  rw [hk1] at h1
  cases h1
  obtain ⟨base, h5, rfl, h7, h8⟩ := h3 rfl
  have h5 : μ k = some (b, base) := h5
  obtain ⟨xs, ty, hx, hxs⟩ : ∃ xs ty, w.heap[b]? = some (.cells xs ty (0, 0)) ∧ base + l * s ≤ xs.size := by
    rcases (hI1.ob k _ hk1).2 with ⟨h9, _⟩ | ⟨b', base', xs1, T1, h9, h10, h11⟩
    · have h9 : μ k = none := h9
      rw [h5] at h9; cases h9
    · have h9 : μ k = some (b', base') := h9
      rw [h5] at h9
      cases h9
      exact ⟨xs1, T1, h10, h11.1⟩
  obtain ⟨c1, c2⟩ := fcells hy hyr
  have c3 : (a.eval x).cells.toList.length = n := by rw [Array.length_toList, c1, hl]
  have hbd : base + (i * s + off) + n ≤ xs.size := by
    have := Nat.mul_le_mul_right s (show i + 1 ≤ l from h7)
    rw [Nat.add_mul, Nat.one_mul] at this
    omega
  have hrun := run_storeCells_at P b (base + (i * s + off)) ty (a.eval x).cells.toList 0 xs w hx (by rw [c3]; exact hbd) (fun v hv => by
    obtain ⟨j, hj, rfl⟩ := List.mem_iff_getElem.1 hv
    rw [oneCell_eq]
    have hj' : j < (cellsOf y).length := by rw [← c1]; simpa using hj
    have := c2 j _ _ (List.getElem?_eq_getElem hj') (by rw [← Array.getElem?_toList]; exact List.getElem?_eq_getElem hj)
    exact this.1.oneCell this.2)
  simp only [Nat.add_zero] at hrun
  refine ⟨.skip, undef, w.setRow b (xs.toList.take (base + (i * s + off)) ++ (a.eval x).cells.toList ++ xs.toList.drop (base + (i * s + off) + (a.eval x).cells.toList.length)).toArray, ?_, .inr ⟨rfl, rfl⟩, μ, ?_⟩
  · have hsz : (a.eval x).cells.size = n := by rw [c1, hl]
    simp only [execOp, ho, Instr.storeAt, h2, Instr.sureAddr, Sem.run_bind, Sem.run_pure, Result.andThen_ok, storeVar, run_sizeOf hn, hsz]
    simp [hrun]
  · refine Inv.putO ?_ o.dst (undef_rep _)
    obtain ⟨e1, e2⟩ := cut_get (cs := xs.toList) (xs := (a.eval x).cells.toList) (off := base + (i * s + off)) (by rw [c3, Array.length_toList]; exact hbd)
    have hres := hI1.setEl (g' := getO (sealO (σ.o.map fun p => (p.1, putO k i off (cellsOf y) p.2)) ks)) (ys := cellsOf y) (off := off) (xs' := (xs.toList.take (base + (i * s + off)) ++ (a.eval x).cells.toList ++ xs.toList.drop (base + (i * s + off) + (a.eval x).cells.toList.length)).toArray) hk1 h5 hx h7 (by omega) (by rw [List.size_toArray, e1, Array.length_toList]) (fun m hm => by
      rw [List.getElem?_toArray, e2, c3, if_neg (by rw [hl] at hm; exact hm), Array.getElem?_toList]) (fun j c hc => by
        have hj : j < n := by rw [← hl]; exact (List.getElem?_eq_some_iff.1 hc).1
        have hj2 : j < (a.eval x).cells.toList.length := by rw [c3]; exact hj
        refine ⟨(a.eval x).cells.toList[j], ?_, c2 j c _ hc (by rw [← Array.getElem?_toList]; exact List.getElem?_eq_getElem hj2)⟩
        rw [List.getElem?_toArray, e2, c3, if_pos (by omega), show base + (i * s + off) + j - (base + (i * s + off)) = j by omega]
        exact List.getElem?_eq_getElem hj2) (fun k' => by
          rw [getO_sealO, getO_map]
          unfold gx
          split
          · cases getO σ.o k' with
            | none => rfl
            | some z => simp [putO_eq, seal_mapO]
          · cases getO σ.o k' with
            | none => rfl
            | some z => simp [putO_eq])
    rw [show (mapT (put1 k i off (cellsOf y))) = putT k i off (cellsOf y) from funext fun c => (putT_eq k i off _ c).symm] at hres
    exact hres
def AllX (m : Option COp) : Prop := ∀ op, m = some op → isX op = true
theorem AllX.none : AllX Option.none := fun _ h => by cases h
theorem AllX.some {op : COp} (h : isX op = true) : AllX (Option.some op) := fun _ h' => by cases h'; exact h
theorem AllX.bind {α : Type} {m : Option α} {f : α → Option COp} (h : ∀ x, AllX (f x)) : AllX (m.bind f) := fun op h' => by
  obtain ⟨x, _, hx⟩ := Option.bind_eq_some_iff.1 h'
  exact h x op hx
theorem AllX.map {α : Type} {m : Option α} {f : α → COp} (h : ∀ x, isX (f x) = true) : AllX (m.map f) := fun op h' => by
  obtain ⟨x, _, hx⟩ := Option.map_eq_some_iff.1 h'
  rw [← hx]
  exact h x
theorem cOp_cases (hc : cOp P ow o = some op) : isX op = true ∨ (∃ t p x, o.op = .store t p x ∧ (szT P t).map (fun n => COp.st n (cX p) (cX x)) = some op) ∨
    (∃ c, o.op = .call c ∧ c.callee = .builtin .append ∧ cCall P ow o.dst c = some op) ∨ (∃ c f fs, o.op = .call c ∧ c.callee = .value (.func f) ∧ op = .lend f fs (c.args.toList.map cX)) := by
  by_cases h1 : ∃ t p x, o.op = .store t p x
  · obtain ⟨t, p, x, h⟩ := h1
    refine .inr (.inl ⟨t, p, x, h, ?_⟩)
    unfold cOp at hc
    rw [h] at hc
    exact hc
  by_cases h2 : ∃ c, o.op = .call c ∧ c.callee = .builtin .append
  · obtain ⟨c, h, h'⟩ := h2
    refine .inr (.inr (.inl ⟨c, h, h', ?_⟩))
    unfold cOp at hc
    rw [h] at hc
    exact hc
  by_cases h3 : ∃ c f, o.op = .call c ∧ c.callee = .value (.func f)
  · obtain ⟨c, f, h, h'⟩ := h3
    unfold cOp at hc
    rw [h] at hc
    unfold cCall at hc
    simp only [h'] at hc
    split at hc
    · unfold cNes at hc
      split at hc
      · split at hc
        · split at hc
          · cases hc; exact .inl rfl
          · cases hc
        · cases hc
      · cases hc
    split at hc
    · cases hc; exact .inr (.inr (.inr ⟨c, f, _, h, h', rfl⟩))
    · cases hc; exact .inl rfl
  refine .inl ?_
  suffices AllX (cOp P ow o) from this op hc
  unfold cOp
  split
  case h_9 t p x ho => exact absurd ⟨t, p, x, ho⟩ h1
  case h_25 c ho =>
    unfold cCall
    split
    case h_1 f hcal => exact absurd ⟨c, f, ho, hcal⟩ h3
    case h_4 hcal => exact absurd ⟨c, ho, hcal⟩ h2
    all_goals (repeat (first | exact AllX.none | exact AllX.some rfl | exact AllX.map fun _ => rfl | refine AllX.bind fun _ => ?_ | split))
  all_goals (try unfold cBin); (try unfold cBuild); (try unfold cSlice)
  all_goals (repeat (first | exact AllX.none | exact AllX.some rfl | exact AllX.map fun _ => rfl | refine AllX.bind fun _ => ?_ | split))
theorem cOp_lend (hc : cOp P ow o = some op) (hl : isL op = true) : ∃ c f fs, o.op = .call c ∧ c.callee = .value (.func f) ∧ op = .lend f fs (c.args.toList.map cX) := by
  have H := cOp_cases hc
  clear hc
  rcases H with h | ⟨t, p, x, ho, hc⟩ | ⟨c, ho, hcal, hc⟩ | h
  · cases op <;> first | (cases hl; done) | (cases h; done)
  · simp only [Option.map_eq_some_iff] at hc
    obtain ⟨n, hn, rfl⟩ := hc
    cases hl
  · exfalso
    unfold cCall at hc
    rw [hcal] at hc
    simp only at hc
    repeat' (first | (split at hc) | (simp only [Option.bind_eq_some_iff] at hc; obtain ⟨_, _, hc⟩ := hc) | (obtain ⟨_, _, hc⟩ := hc))
    all_goals first | (cases hl; done) | (cases hc; done) | (cases hc; cases hl)
  · exact h
theorem cOp_notA (hc : cOp P ow o = some op) : isA op = false := by
  have H := cOp_cases hc
  clear hc
  rcases H with h | ⟨t, p, x, ho, hc⟩ | ⟨c, ho, hcal, hc⟩ | ⟨c, f, fs, _, _, rfl⟩
  · cases op <;> first | rfl | (cases h; done)
  · simp only [Option.map_eq_some_iff] at hc
    obtain ⟨n, hn, rfl⟩ := hc
    rfl
  · unfold cCall at hc
    rw [hcal] at hc
    simp only at hc
    repeat' (first | (split at hc) | (simp only [Option.bind_eq_some_iff] at hc; obtain ⟨_, _, hc⟩ := hc) | (obtain ⟨_, _, hc⟩ := hc))
    all_goals first | rfl | (cases hc; done) | (cases hc; rfl)
  · rfl
theorem M_sound (hI : Inv G w0 S0 σ.t (getO σ.o) μ a w) (hc : cOp P ow o = some op) (hx : isX op = false) (hd : denM G σ o.dst op = some σ') : MRes P G w0 S0 σ' o a w := by
  rcases cOp_cases hc with h | ⟨t, p, x, ho, hc⟩ | ⟨c, ho, hcal, hc⟩ | ⟨c, f, fs, _, _, rfl⟩
  rotate_left 3
  · cases hd
  · rw [hx] at h; cases h
  · simp only [Option.map_eq_some_iff] at hc
    obtain ⟨n, hn, rfl⟩ := hc
    simp only [denM] at hd
    split at hd
    · rename_i k off hp
      split at hd
      · rename_i cs hk
        split at hd
        · rename_i h
          cases hd
          exact m_stV hI hn ho hp hk h.1 h.2.1 h.2.2
        · cases hd
      · cases hd
    · rename_i k i off cs hp
      split at hd
      · rename_i l s sh hk
        simp only [Option.bind_eq_some_iff] at hd
        obtain ⟨y, hy, hd⟩ := hd
        split at hd
        · rename_i h
          cases hd
          exact m_stE hI hn ho hp hk hy h.1 h.2.1 h.2.2
        · cases hd
      · cases hd
    · cases hd
  · unfold cCall at hc
    rw [hcal] at hc
    simp only at hc
    split at hc
    · rename_i x y t tx ha hat
      split at hc
      · rename_i e ht
        simp only [Option.bind_eq_some_iff] at hc
        obtain ⟨s, hs, b, hb, z, hz, hc⟩ := hc
        obtain ⟨hs, hse⟩ := szG_sz hs
        split at hc
        · rename_i h
          split at hc
          · rename_i e' htx
            split at hc
            · cases hc
              obtain ⟨s0, st⟩ := s
              exact m_cut hI hcal ha hat ht ⟨_, htx⟩ hs hb hz h.1 h.2.1 h.2.2 ho hd
            · cases hc
              exact m_app hI hcal ha hat ht (.inl ⟨rfl, _, htx⟩) hs hse hb hz h.1 h.2.1 h.2.2 ho hd
          · rename_i htx
            cases hc
            exact m_app hI hcal ha hat ht (.inr ⟨rfl, htx⟩) hs hse hb hz h.1 h.2.1 h.2.2 ho hd
          · cases hc
        · cases hc
      · cases hc
    · cases hc
end
end Go.Proofs.YtmhdapjmndfkgaaGreatDoor.Eng
namespace Go.Proofs.YtmhdapjmndfkgaaGreatDoor.Eng
open Go Go.RowKit
theorem count_one {α β : Type} [BEq β] [LawfulBEq β] {f : α → List β} {k : β} {l : List α} {m : Nat} {x : α} (h : l[m]? = some x) : (f x).count k ≤ (l.flatMap f).count k := by
  induction l generalizing m with
  | nil => simp at h
  | cons y l ih =>
    rw [List.flatMap_cons, List.count_append]
    cases m with
    | zero => simp at h; subst h; omega
    | succ m => have := ih (m := m) (by simpa using h); omega
theorem count_two {α β : Type} [BEq β] [LawfulBEq β] {f : α → List β} {k : β} {l : List α} {m m' : Nat} {x y : α} (h : l[m]? = some x) (h' : l[m']? = some y) (hlt : m < m') : (f x).count k + (f y).count k ≤ (l.flatMap f).count k := by
  induction l generalizing m m' with
  | nil => simp at h
  | cons z l ih =>
    rw [List.flatMap_cons, List.count_append]
    obtain ⟨m', rfl⟩ : ∃ n, m' = n + 1 := ⟨m' - 1, by omega⟩
    cases m with
    | zero =>
      simp at h
      subst h
      have := count_one (f := f) (k := k) (l := l) (m := m') (x := y) (by simpa using h')
      omega
    | succ m =>
      have := ih (m := m) (m' := m') (by simpa using h) (by simpa using h') (by omega)
      omega
def atm (rs : List AV) (m i : Nat) : Option AV := (rs[m]?).bind fun r => (cellsOf r)[i]?
theorem keys_cells (x : AV) : keys x = (cellsOf x).flatMap keys1 := by
  cases x <;> simp [keys, cellsOf]
theorem atm_uniq {rs : List AV} {k : Key} {m i m' i' : Nat} {es es' : List (List AV)} (h : atm rs m i = some (.asl k es)) (h' : atm rs m' i' = some (.asl k es')) (hc : (allKeys rs).count k = 1) : m = m' ∧ i = i' := by
  unfold atm at h h'
  simp only [Option.bind_eq_some_iff] at h h'
  obtain ⟨r, hr, hi⟩ := h
  obtain ⟨r', hr', hi'⟩ := h'
  have k1 : ∀ {r : AV} {i : Nat} {es : List (List AV)}, (cellsOf r)[i]? = some (.asl k es) → 1 ≤ (keys r).count k := by
    intro r i es h
    rw [keys_cells]
    have := count_one (f := keys1) (k := k) h
    simpa [keys1] using this
  have hm : m = m' := by
    rcases Nat.lt_trichotomy m m' with h | h | h
    · have := count_two (f := keys) (k := k) hr hr' h
      have h1 := k1 hi; have h2 := k1 hi'
      unfold allKeys at hc
      omega
    · exact h
    · have := count_two (f := keys) (k := k) hr' hr h
      have h1 := k1 hi; have h2 := k1 hi'
      unfold allKeys at hc
      omega
  subst hm
  rw [hr] at hr'
  cases hr'
  refine ⟨rfl, ?_⟩
  have hone := count_one (f := keys) (k := k) hr
  unfold allKeys at hc
  rcases Nat.lt_trichotomy i i' with h | h | h
  · have := count_two (f := keys1) (k := k) hi hi' h
    rw [← keys_cells] at this
    simp [keys1] at this
    omega
  · exact h
  · have := count_two (f := keys1) (k := k) hi' hi h
    rw [← keys_cells] at this
    simp [keys1] at this
    omega
theorem exp1_shape {o : List (Key × Ob)} {ks : List Key} {c c' : AV} (h : exp1 o ks c = some c') : cellsOf c' = [c'] ∧ cellsOf c = [c] := by
  unfold exp1 at h
  split at h
  · split at h
    · simp only [Option.some.injEq] at h
      subst h
      split <;> exact ⟨rfl, rfl⟩
    · cases h
  · cases c <;> simp only [frz1, Option.some.injEq, reduceCtorEq] at h <;> subst h <;> exact ⟨rfl, rfl⟩
theorem exp1_nt {o : List (Key × Ob)} {ks : List Key} {c c' : AV} (h : exp1 o ks c = some c') : (∀ vs, c' ≠ .tup vs) ∧ ∀ vs, c' ≠ .agg vs := by
  unfold exp1 at h
  split at h
  · split at h
    · simp only [Option.some.injEq] at h
      subst h
      split <;> exact ⟨fun _ h => (by cases h), fun _ h => (by cases h)⟩
    · cases h
  · cases c <;> simp only [frz1, Option.some.injEq, reduceCtorEq] at h <;> subst h <;> exact ⟨fun _ h => (by cases h), fun _ h => (by cases h)⟩
theorem expL_get {o : List (Key × Ob)} {ks : List Key} : ∀ {cs cs' : List AV}, expL o ks cs = some cs' → cs'.length = cs.length ∧ ∀ (i : Nat) (c : AV), cs[i]? = some c → ∃ c', cs'[i]? = some c' ∧ exp1 o ks c = some c'
  | [], cs', h => by simp [expL] at h; subst h; exact ⟨rfl, fun i c h => by simp at h⟩
  | x :: cs, cs', h => by
    simp only [expL, Option.bind_eq_some_iff, Option.some.injEq] at h
    obtain ⟨y, hy, m, hm, rfl⟩ := h
    obtain ⟨h1, h2⟩ := expL_get hm
    refine ⟨by simp [h1], fun i c hc => ?_⟩
    cases i with
    | zero => simp at hc; subst hc; exact ⟨y, rfl, hy⟩
    | succ i => exact h2 i c (by simpa using hc)
theorem expA_get {o : List (Key × Ob)} {ks : List Key} {r r' : AV} (h : expA o ks r = some r') : (cellsOf r').length = (cellsOf r).length ∧ (∀ (i : Nat) (c : AV), (cellsOf r)[i]? = some c → ∃ c', (cellsOf r')[i]? = some c' ∧ exp1 o ks c = some c') ∧
    ((∃ cs cs', r = .agg cs ∧ r' = .agg cs') ∨ exp1 o ks r = some r') := by
  cases r with
  | agg cs =>
    simp only [expA, Option.map_eq_some_iff] at h
    obtain ⟨cs', hc, rfl⟩ := h
    obtain ⟨h1, h2⟩ := expL_get hc
    exact ⟨h1, h2, .inl ⟨cs, cs', rfl, rfl⟩⟩
  | _ =>
    simp only [expA] at h
    obtain ⟨h1, h2⟩ := exp1_shape h
    rw [h1, h2]
    refine ⟨rfl, fun i c hc => ?_, .inr h⟩
    match i with
    | 0 => simp at hc; subst hc; exact ⟨r', rfl, h⟩
    | i + 1 => simp at hc
theorem expT_get {o : List (Key × Ob)} {ks : List Key} : ∀ {rs l : List AV}, expT o ks rs = some l → l.length = rs.length ∧ ∀ (m : Nat) (r : AV), rs[m]? = some r → ∃ r', l[m]? = some r' ∧ expA o ks r = some r'
  | [], l, h => by simp [expT] at h; subst h; exact ⟨rfl, fun i c h => by simp at h⟩
  | x :: rs, l, h => by
    simp only [expT, Option.bind_eq_some_iff, Option.some.injEq] at h
    obtain ⟨y, hy, m, hm, rfl⟩ := h
    obtain ⟨h1, h2⟩ := expT_get hm
    refine ⟨by simp [h1], fun i c hc => ?_⟩
    cases i with
    | zero => simp at hc; subst hc; exact ⟨y, rfl, hy⟩
    | succ i => exact h2 i c (by simpa using hc)
theorem atm_exp {o : List (Key × Ob)} {ks : List Key} {rs l : List AV} (h : expT o ks rs = some l) {m i : Nat} {c' : AV} (hc : atm l m i = some c') : ∃ c, atm rs m i = some c ∧ exp1 o ks c = some c' := by
  unfold atm at hc ⊢
  simp only [Option.bind_eq_some_iff] at hc
  obtain ⟨r', hr', hi⟩ := hc
  obtain ⟨h1, h2⟩ := expT_get h
  have hlt : m < rs.length := by rw [← h1]; exact (List.getElem?_eq_some_iff.1 hr').1
  obtain ⟨r1, hr1, he⟩ := h2 m _ (List.getElem?_eq_getElem hlt)
  rw [hr'] at hr1
  cases hr1
  obtain ⟨h3, h4, _⟩ := expA_get he
  have hilt : i < (cellsOf rs[m]).length := by rw [← h3]; exact (List.getElem?_eq_some_iff.1 hi).1
  obtain ⟨c1, hc1, he1⟩ := h4 i _ (List.getElem?_eq_getElem hilt)
  rw [hi] at hc1
  cases hc1
  exact ⟨_, by rw [List.getElem?_eq_getElem hlt]; exact List.getElem?_eq_getElem hilt, he1⟩
def ownOb : AV → Option Ob
  | .own sz mu es => some (.tail es.length sz mu !mu)
  | _ => none
theorem getO_imp1 (d j : Nat) (c : AV) (q : Key) : getO (imp1 d j c).2 q = if q = (d, j) then ownOb c else none := by
  cases c <;> simp only [imp1, getO, ownOb]
  case own sz mu es =>
    by_cases h : q = (d, j)
    · subst h; simp
    · rw [if_neg h, if_neg fun e => h e.symm]
  all_goals (split <;> rfl)
theorem getO_impL (d : Nat) (q : Key) : ∀ (cs : List AV) (j : Nat), getO (impL d j cs).2 q = if q.1 = d ∧ j ≤ q.2 then (cs[q.2 - j]?).bind ownOb else none
  | [], j => by simp [impL, getO]
  | x :: cs, j => by
    simp only [impL]
    rw [getO_append, getO_imp1, getO_impL d q cs (j + 1)]
    obtain ⟨q1, q2⟩ := q
    by_cases h1 : q1 = d
    · subst h1
      by_cases h2 : q2 = j
      · subst h2
        have : ¬ (q2 + 1 ≤ q2) := by omega
        simp [this]
      · by_cases h3 : j ≤ q2
        · have h4 : j + 1 ≤ q2 := by omega
          have h5 : q2 - j = (q2 - (j + 1)) + 1 := by omega
          simp [h2, h3, h4, h5]
        · have h4 : ¬ j + 1 ≤ q2 := by omega
          simp [h2, h3, h4]
    · simp [h1]
theorem getO_impA (d j : Nat) (q : Key) (x : AV) : getO (impA d j x).2 q = if q.1 = d ∧ j ≤ q.2 then ((cellsOf x)[q.2 - j]?).bind ownOb else none := by
  have one : getO (imp1 d j x).2 q = if q.1 = d ∧ j ≤ q.2 then (([x] : List AV)[q.2 - j]?).bind ownOb else none := by
    rw [getO_imp1]
    obtain ⟨q1, q2⟩ := q
    by_cases h1 : q1 = d
    · subst h1
      by_cases h2 : q2 = j
      · subst h2; simp
      · by_cases h3 : j ≤ q2
        · have h5 : q2 - j = (q2 - (j + 1)) + 1 := by omega
          simp [h2, h3, h5]
        · simp [h2, h3]
    · simp [h1]
  cases x with
  | agg cs => exact getO_impL d q cs j
  | _ => exact one
theorem getO_impT (d : Nat) (q : Key) : ∀ (vs : List AV) (j : Nat), (∀ v ∈ vs, (cellsOf v).length ≤ 100) → getO (impT d j vs).2 q = if q.1 = d ∧ j ≤ q.2 then (atm vs ((q.2 - j) / 100) ((q.2 - j) % 100)).bind ownOb else none
  | [], j, _ => by simp [impT, getO, atm]
  | x :: vs, j, h => by
    simp only [impT]
    rw [getO_append, getO_impA, getO_impT d q vs (j + 100) fun v hv => h v (List.mem_cons_of_mem _ hv)]
    have hx := h x List.mem_cons_self
    obtain ⟨q1, q2⟩ := q
    by_cases h1 : q1 = d
    · subst h1
      by_cases h3 : j ≤ q2
      · by_cases h4 : j + 100 ≤ q2
        · have h5 : (cellsOf x)[q2 - j]? = none := List.getElem?_eq_none (by omega)
          have h6 : (q2 - j) / 100 = (q2 - (j + 100)) / 100 + 1 := by omega
          have h7 : (q2 - j) % 100 = (q2 - (j + 100)) % 100 := by omega
          simp only [h3, h4, and_self, if_true, h5, h6, h7, Option.bind_none, Option.none_or]
          rfl
        · have h6 : (q2 - j) / 100 = 0 := by omega
          have h7 : (q2 - j) % 100 = q2 - j := by omega
          simp only [h3, h4, and_self, and_false, if_true, if_false, h6, h7, Option.or_none]
          rfl
      · have h4 : ¬ j + 100 ≤ q2 := by omega
        simp [h3, h4]
    · simp [h1]
end Go.Proofs.YtmhdapjmndfkgaaGreatDoor.Eng
namespace Go.Proofs.YtmhdapjmndfkgaaGreatDoor.Eng
open Go Go.RowKit
section
variable {P : Program} {G : Nat → AV} {w0 w w' : World} {S0 : Sb} {T : List AV} {g g' : Key → Option Ob} {μ μ' ν : Key → Option (Nat × Nat)} {a : Act} {σ σ' : St} {d j : Nat}
def srcK (rs l : List AV) (n : Nat) : Option Key := match atm l (n / 100) (n % 100), atm rs (n / 100) (n % 100) with
  | some (.own _ _ _), some (.asl k _) => some k
  | _, _ => none
theorem exp_own' {o : List (Key × Ob)} {ks : List Key} {c : AV} {sz : Sz} {mu : Bool} {es : List (List AV)} (h : exp1 o ks c = some (.own sz mu es)) : ∃ k mu' shr, c = .asl k es ∧ getO o k = some (.tail es.length sz mu' shr) ∧ ks.count k = 1 ∧ mu = !shr := by
  unfold exp1 at h
  split at h
  · rename_i k es'
    split at h
    · rename_i n sz' mu' shr hk
      simp only [Option.some.injEq] at h
      split at h
      · rename_i hc
        cases h
        exact ⟨k, mu', shr, rfl, by rw [hk, hc.1], hc.2, rfl⟩
      · cases h
    · cases h
  · cases c <;> simp [frz1] at h
theorem out_rep {w1 : World} {S1 : Sb} (hI : Inv G w0 S0 σ.t (getO σ.o) μ a w) (s1 : ∀ b i, Stab w0 S0 w (getO σ.o) μ b i → Stab w1 S1 w (getO σ.o) μ b i) {rs l : List AV}
    (s2 : ∀ (k : Key) (b base n : Nat) (sz : Sz) (mu shr : Bool) (m i : Nat), μ k = some (b, base) → getO σ.o k = some (.tail n sz mu shr) → (∃ es, atm rs m i = some (.asl k es)) → Mine w1 S1 b) (hsz : ∀ r ∈ rs, (cellsOf r).length ≤ 100) (he : expT σ.o (allKeys rs) rs = some l) (d j : Nat) :
    ∃ ν : Key → Option (Nat × Nat), (∀ k b base, ν k = some (b, base) → (getO (impT d j l).2 k).isSome ∧ (Mine w1 S1 b ∧ b < w.heap.size) ∧ ∃ k' n sz mu shr, μ k' = some (b, base) ∧ getO σ.o k' = some (.tail n sz mu shr)) ∧ (∀ k k' b i i', ν k = some (b, i) → ν k' = some (b, i') → k = k') ∧
      (∀ b i, Stab w0 S0 w (getO σ.o) μ b i → Stab w1 S1 w (getO (impT d j l).2) ν b i) ∧
      (∀ k x, getO (impT d j l).2 k = some x → ObRep (mkC w1 S1 w (getO (impT d j l).2) ν) k x) ∧
      (∀ (m i : Nat) (c c' : AV) (x : Value), i < 100 → atm rs m i = some c → atm l m i = some c' → exp1 σ.o (allKeys rs) c = some c' → LRep1 (mkC w0 S0 w (getO σ.o) μ) c x → LRep1 (mkC w1 S1 w (getO (impT d j l).2) ν) (imp1 d (j + (100 * m + i)) c').1 x) ∧
      ∀ (m : Nat) (r : AV) (y : Value), rs[m]? = some r → LRep (mkC w0 S0 w (getO σ.o) μ) r y → ∃ r', l[m]? = some r' ∧ LRepA (mkC w1 S1 w (getO (impT d j l).2) ν) (impA d (j + 100 * m) r').1 y := by
  obtain ⟨hl1, hl2⟩ := expT_get he
  have hlsz : ∀ r ∈ l, (cellsOf r).length ≤ 100 := by
    intro r' hr'
    obtain ⟨m, hm, rfl⟩ := List.mem_iff_getElem.1 hr'
    obtain ⟨r1, h1, h2⟩ := hl2 m _ (List.getElem?_eq_getElem (by omega))
    rw [List.getElem?_eq_getElem hm] at h1
    cases h1
    rw [(expA_get h2).1]
    exact hsz _ (List.getElem_mem _)
  have hgi := fun q => getO_impT d q l j hlsz
  have hsrc : ∀ n k, srcK rs l n = some k → ∃ es sz mu mu' shr, atm l (n / 100) (n % 100) = some (.own sz mu es) ∧ atm rs (n / 100) (n % 100) = some (.asl k es) ∧ getO σ.o k = some (.tail es.length sz mu' shr) ∧ (allKeys rs).count k = 1 ∧ mu = !shr := by
    intro n k h
    unfold srcK at h
    split at h
    · rename_i sz mu es k' es' h1 h2
      cases h
      obtain ⟨c, hc, hx⟩ := atm_exp he h1
      rw [h2] at hc
      cases hc
      obtain ⟨k', mu', shr, h3, h4, h5, h6⟩ := exp_own' hx
      cases h3
      exact ⟨es, sz, mu, mu', shr, h1, h2, h4, h5, h6⟩
    · cases h
  let ν : Key → Option (Nat × Nat) := fun q => if q.1 = d ∧ j ≤ q.2 then (srcK rs l (q.2 - j)).bind μ else none
  have hν : ∀ q p, ν q = some p → q.1 = d ∧ j ≤ q.2 ∧ ∃ k, srcK rs l (q.2 - j) = some k ∧ μ k = some p := by
    intro q p h
    simp only [ν] at h
    split at h
    · rename_i hq
      obtain ⟨k, h1, h2⟩ := Option.bind_eq_some_iff.1 h
      exact ⟨hq.1, hq.2, k, h1, h2⟩
    · cases h
  have hgo : ∀ q : Key, q.1 = d → j ≤ q.2 → getO (impT d j l).2 q = (atm l ((q.2 - j) / 100) ((q.2 - j) % 100)).bind ownOb := fun q h1 h2 => by rw [hgi, if_pos ⟨h1, h2⟩]
  have hinj : ∀ k k' b i i', ν k = some (b, i) → ν k' = some (b, i') → k = k' := by
    intro q q' b i i' h h'
    obtain ⟨h1, h2, k, h3, h4⟩ := hν q _ h
    obtain ⟨h1', h2', k', h3', h4'⟩ := hν q' _ h'
    obtain rfl := hI.inj _ _ _ _ _ h4 h4'
    obtain ⟨es, sz, mu, mu', shr, _, h5, _, h6, _⟩ := hsrc _ _ h3
    obtain ⟨es', _, _, _, _, _, h5', _, _, _⟩ := hsrc _ _ h3'
    obtain ⟨h7, h8⟩ := atm_uniq h5 h5' h6
    have : q.2 - j = q'.2 - j := by
      have e1 := Nat.div_add_mod (q.2 - j) 100
      have e2 := Nat.div_add_mod (q'.2 - j) 100
      omega
    exact Prod.ext (h1.trans h1'.symm) (by omega)
  have hS : ∀ b i, Stab w0 S0 w (getO σ.o) μ b i → Stab w1 S1 w (getO (impT d j l).2) ν b i := by
    intro b i h
    rcases s1 b i h with h | ⟨h1, h2, h3⟩
    · exact .inl h
    · refine .inr ⟨h1, h2, fun q base hq => ?_⟩
      obtain ⟨e1, e2, k, e3, e4⟩ := hν q _ hq
      obtain ⟨es, sz, mu, mu', shr, e5, e6, e7, e8, e9⟩ := hsrc _ _ e3
      have := h3 k base e4
      rw [e7] at this
      rw [hgo q e1 e2, e5]
      obtain ⟨c1, c2⟩ := this
      subst c1
      subst e9
      exact ⟨rfl, c2⟩
  have F : ∀ {c : AV} {x : Value}, FRep w (Stab w0 S0 w (getO σ.o) μ) c x → FRep w (Stab w1 S1 w (getO (impT d j l).2) ν) c x := fun h => h.mono fun b i hs => ⟨hS b i hs, rfl⟩
  have atomR : ∀ (m i : Nat) (c c' : AV) (x : Value), i < 100 → atm rs m i = some c → atm l m i = some c' → exp1 σ.o (allKeys rs) c = some c' → LRep1 (mkC w0 S0 w (getO σ.o) μ) c x → LRep1 (mkC w1 S1 w (getO (impT d j l).2) ν) (imp1 d (j + (100 * m + i)) c').1 x := by
    intro m i c c' x hi hc hc' hx h
    have hq1 : ((d, j + (100 * m + i)) : Key).2 - j = 100 * m + i := by show j + (100 * m + i) - j = _; omega
    have hdiv : (100 * m + i) / 100 = m := by omega
    have hmod : (100 * m + i) % 100 = i := by omega
    unfold exp1 at hx
    split at hx
    · rename_i k es
      split at hx
      · rename_i n sz mu shr hk
        obtain ⟨len, sz', mu', shr', h1, h2, h3, h4, h5⟩ := h
        have h1 : getO σ.o k = some (.tail len sz' mu' shr') := h1
        rw [hk] at h1
        cases h1
        simp only [Option.some.injEq] at hx
        split at hx
        · rename_i hown
          obtain ⟨rfl, hcnt⟩ := hown
          subst hx
          have hgk : getO (impT d j l).2 (d, j + (100 * m + i)) = some (.tail es.length sz (!shr) (!!shr)) := by
            rw [hgo _ rfl (by show j ≤ j + _; omega), hq1, hdiv, hmod, hc']; rfl
          have hsk : srcK rs l (100 * m + i) = some k := by
            unfold srcK
            rw [hdiv, hmod, hc', hc]
          have hνk : ν (d, j + (100 * m + i)) = μ k := by
            simp only [ν]
            rw [if_pos ⟨trivial, by omega⟩, show j + (100 * m + i) - j = 100 * m + i by omega, hsk]
            rfl
          refine ⟨es.length, sz, !shr, !!shr, hgk, Nat.le_refl _, fun _ => rfl, h4, ?_⟩
          rcases h5 with ⟨h5, h6, h7⟩ | ⟨b, o, cap, X, h5, h6, h7, h8⟩
          · exact .inl ⟨h5, h6, fun h0 => by show ν _ = none; rw [hνk]; exact h7 h0⟩
          · refine .inr ⟨b, o, cap, X, h5, h6, fun h0 => ⟨by show ν _ = _; rw [hνk]; exact (h7 h0).1, (h7 h0).2⟩, fun i' e j' c he hc => ?_⟩
            obtain ⟨a1, a2, a3, a4⟩ := h8 i' e j' c he hc
            refine ⟨a1.imp (hS _ _) fun ho => ?_, a2, a3, F a4⟩
            obtain ⟨base, len', sz'', mu'', shr'', o1, o2, o3⟩ := ho
            have o2 : getO σ.o k = some (.tail len' sz'' mu'' shr'') := o2
            rw [hk] at o2
            cases o2
            exact ⟨base, es.length, sz, !shr, !!shr, by show ν _ = _; rw [hνk]; exact o1, hgk, o3⟩
        · rename_i hown
          subst hx
          show FRep _ _ _ _
          rcases h5 with ⟨rfl, rfl, _⟩ | ⟨b, o, cap, X, rfl, h6, h7, h8⟩
          · exact .nil
          · refine .sl X h6 h4 (fun i' e j' c he hcj => ?_) fun i' e j' c he hcj => F (h8 i' e j' c he hcj).2.2.2
            obtain ⟨a1, a2, a3, a4⟩ := h8 i' e j' c he hcj
            refine ⟨?_, a2, a3⟩
            rcases a1 with a1 | ⟨base, len', sz'', mu'', shr'', o1, o2, o3⟩
            · exact hS _ _ a1
            · have o1 : μ k = some (b, base) := o1
              have hp := hI.pl k b base o1
              refine .inr ⟨s2 _ _ _ _ _ _ _ m i o1 hk ⟨_, hc⟩, hp.2.2, fun q base' hq => ?_⟩
              exfalso
              obtain ⟨e1, e2, k', e3, e4⟩ := hν q _ hq
              obtain rfl := hI.inj _ _ _ _ _ e4 o1
              obtain ⟨es', sz3, mu3, mu4, shr3, e5, e6, e7, e8, e9⟩ := hsrc _ _ e3
              obtain ⟨u1, u2⟩ := atm_uniq e6 hc e8
              rw [u1, u2] at e6
              rw [hc] at e6
              cases e6
              rw [hk] at e7
              cases e7
              exact hown ⟨rfl, e8⟩
      · cases hx
    · rename_i hne
      cases c <;> simp only [frz1, Option.some.injEq, reduceCtorEq] at hx <;> subst hx
      · exact F h
      · rw [show x = _ from h]; exact .nil
      · exact F h
      · exact absurd rfl (hne _ _)
      · exact F h
      · exact F h
      · exact F h
      · rw [show x = _ from h]; exact .v rfl
  refine ⟨ν, fun q b base h => ?_, hinj, hS, fun q x hx => ?_, atomR, fun m r y hr hy => ?_⟩
  · obtain ⟨e1, e2, k, e3, e4⟩ := hν q _ h
    obtain ⟨es, sz, mu, mu', shr, e5, e6, e7, _⟩ := hsrc _ _ e3
    exact ⟨by rw [hgo q e1 e2, e5]; rfl, ⟨s2 _ _ _ _ _ _ _ _ _ e4 e7 ⟨_, e6⟩, (hI.pl k b base e4).2.2⟩, k, _, _, _, _, e4, e7⟩
  · have hx' := hx
    rw [hgi] at hx'
    split at hx'
    · rename_i hq
      obtain ⟨c', h1, h2⟩ := Option.bind_eq_some_iff.1 hx'
      obtain ⟨c, hc, hex⟩ := atm_exp he h1
      cases c' <;> simp only [ownOb, Option.some.injEq, reduceCtorEq] at h2
      subst h2
      rename_i sz mu es
      obtain ⟨k, mu', shr, rfl, h4, h5, rfl⟩ := exp_own' hex
      have hsk : srcK rs l (q.2 - j) = some k := by
        unfold srcK
        rw [h1, hc]
      have hνk : ν q = μ k := by
        simp only [ν]
        rw [if_pos hq, hsk]
        rfl
      refine ⟨by simp, ?_⟩
      rcases (hI.ob k _ h4).2 with ⟨o1, o2⟩ | ⟨b, base, xs, ty, o1, o2, o3⟩
      · exact .inl ⟨hνk.trans o1, o2⟩
      · exact .inr ⟨b, base, xs, ty, hνk.trans o1, o2, o3⟩
    · cases hx'
  · obtain ⟨r', hr', hex⟩ := hl2 m r hr
    refine ⟨r', hr', ?_⟩
    obtain ⟨h1, h2, h3⟩ := expA_get hex
    have hrl := hsz r (List.mem_of_getElem? hr)
    rcases h3 with ⟨cs, cs', rfl, rfl⟩ | h3
    · obtain ⟨vs, e1, e2, e3⟩ := hy
      have h1 : cs'.length = cs.length := h1
      refine ⟨vs, e1, by rw [(impL_get d cs' (j + 100 * m) 0).1, h1]; exact e2, fun i c x hc hx => ?_⟩
      have hlt : i < cs'.length := by
        have := (List.getElem?_eq_some_iff.1 hc).1
        have hlen : (impA d (j + 100 * m) (.agg cs')).1 = .agg (impL d (j + 100 * m) cs').1 := rfl
        rw [(impL_get d cs' (j + 100 * m) 0).1] at this
        exact this
      have hcs' : cs'[i]? = some cs'[i] := List.getElem?_eq_getElem hlt
      have hci := (impL_get d cs' (j + 100 * m) i).2 _ hcs'
      have hc : (impL d (j + 100 * m) cs').1[i]? = some c := hc
      rw [hci] at hc
      cases hc
      have hcs : cs[i]? = some (cs[i]'(by omega)) := List.getElem?_eq_getElem (by omega)
      obtain ⟨c2, hc2, hx2⟩ := h2 i _ hcs
      have hc2 : cs'[i]? = some c2 := hc2
      rw [hcs'] at hc2
      cases hc2
      obtain ⟨a1, a2⟩ := e3 i _ x hcs hx
      have hrl : cs.length ≤ 100 := hrl
      refine ⟨?_, a2⟩
      rw [Nat.add_assoc]
      exact atomR m i _ _ x (by omega) (by unfold atm; rw [hr]; exact hcs) (by unfold atm; rw [hr']; exact hcs') hx2 a1
    · obtain ⟨s1, s2⟩ := exp1_shape h3
      have ha : atm rs m 0 = some r := by unfold atm; rw [hr]; simp [s2]
      have ha' : atm l m 0 = some r' := by unfold atm; rw [hr']; simp [s1]
      have hy1 : LRep1 (mkC w0 S0 w (getO σ.o) μ) r y := by
        cases r with
        | agg cs => unfold exp1 frz1 at h3; cases h3
        | tup cs => unfold exp1 frz1 at h3; cases h3
        | _ => exact hy
      have hres := atomR m 0 r r' y (by omega) ha ha' h3 hy1
      have e : (impA d (j + 100 * m) r').1 = (imp1 d (j + 100 * m) r').1 := by
        cases r' with
        | agg cs => exfalso; unfold exp1 at h3; split at h3 <;> (try split at h3) <;> (try split at h3) <;> (try cases h3) <;> (cases r <;> simp [frz1] at h3)
        | _ => rfl
      rw [e]
      exact LRepA.of1 hres.atom hres
end
end Go.Proofs.YtmhdapjmndfkgaaGreatDoor.Eng
