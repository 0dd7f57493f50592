/- ident.Once, told: it tells whether no text is there twice; for the engine. -/
import Derived.Test.YtmhdapjmndfkgaaGreatDoorRight
import Derived.Test.YtmhdapjmndfkgaaGreatDoorShelf
import Derived.Sort.OwnSorted
import Derived.Lib.OwnBridge
import Derived.Lib.Walk
import Derived.WalkKit
import Derived.ProofKit
import Derived.RegionTactic
import Derived.BigCall
import Derived.BigGuard
import Derived.CellFam
import Derived.Shelf.RegionOpenPlain
namespace Go.Proofs.YtmhdapjmndfkgaaGreatDoor.Prim
open Go Go.RowKit Go.Proofs.YtmhdapjmndfkgaaGreatDoor.Eng Go.Sort
set_option linter.unusedSimpArgs false
set_option linter.unusedVariables false
open Sp Sp.W
abbrev strs (l : List ByteArray) : AV := .fsl (l.map fun w => [.v (.string w)])
/-- Sorted texts. -/
def sortedS (l : List ByteArray) : List (List UInt8) := (l.map (·.data.toList)).mergeSort fun x y => decide (x ≤ y)
def sortedB (l : List ByteArray) : List ByteArray := (sortedS l).map fun x => ⟨x.toArray⟩
theorem sortedS_len (l : List ByteArray) : (sortedS l).length = l.length := by unfold sortedS; rw [List.length_mergeSort, List.length_map]
theorem sortedB_len (l : List ByteArray) : (sortedB l).length = l.length := by unfold sortedB; rw [List.length_map, sortedS_len]
theorem sortedB_S (l : List ByteArray) : (sortedB l).map (·.data.toList) = sortedS l := by
  unfold sortedB
  rw [List.map_map]
  conv => rhs; rw [← List.map_id (sortedS l)]
  apply List.map_congr_left
  intro x _
  simp
/-- A row of texts that stands in memory is what the abstract one stands for. -/
theorem strs_rep {w : World} {g cap n : Nat} {ts : List ByteArray} (hg : g < w.heap.size) (hn : ts.length = n) (hc : n ≤ cap) (h : ∀ i s, ts[i]? = some s → w.cell? ⟨g, i, none⟩ = some (.string s)) :
    FRep w (fun b _ => b < w.heap.size) (strs ts) (.slice (some ⟨g, 0, none⟩) n cap) := by
  subst hn
  have hl : (ts.map fun w => [AV.v (.string w)]).length = ts.length := List.length_map _
  rw [← hl]
  refine .sl (sz := 1) (fun i _ => .string (ts.getD i ⟨#[]⟩)) (by rw [hl]; exact hc) (fun i e he => ?_) (fun i e j c he hc => ?_) (fun i e j c he hc => ?_)
  · rw [List.getElem?_map, Option.map_eq_some_iff] at he
    obtain ⟨s, _, rfl⟩ := he
    rfl
  · rw [List.getElem?_map, Option.map_eq_some_iff] at he
    obtain ⟨s, hs, rfl⟩ := he
    match j with
    | 0 =>
      cases hc
      refine ⟨hg, ?_, rfl⟩
      rw [show 0 + (i * 1 + 0) = i by omega, h i s hs]
      simp [List.getD_eq_getElem?_getD, hs]
    | j + 1 => simp at hc
  · rw [List.getElem?_map, Option.map_eq_some_iff] at he
    obtain ⟨s, hs, rfl⟩ := he
    match j with
    | 0 =>
      cases hc
      simp only [List.getD_eq_getElem?_getD, hs]
      exact .v rfl
    | j + 1 => simp at hc
theorem sorted_rep {w : World} {g cap n k : Nat} {os : Array Obj} {cur : Array Value} {e : TypeId} {l : List ByteArray} (hb : w.heap[g]? = some (.cells cur e (0, 0))) (hn : l.length = n) (hc : n ≤ cap) (hs : n ≤ cur.size) :
    FRep (grow (putRow encStr (Sort.ahead w k) g 0 (sortedS l).toArray) os) (fun b _ => b < (grow (putRow encStr (Sort.ahead w k) g 0 (sortedS l).toArray) os).heap.size) (strs (sortedB l)) (.slice (some ⟨g, 0, none⟩) n cap) := by
  have hh := heap_sorted (n := k) (os := os) (sortedS l).toArray hb
  refine strs_rep ?_ (by rw [sortedB_len]; exact hn) hc fun i s hi => ?_
  · exact (Array.getElem?_eq_some_iff.1 hh).1
  · have hi2 : i < (sortedS l).length := by
      have := (List.getElem?_eq_some_iff.1 hi).1
      rw [sortedB_len] at this; rw [sortedS_len]; exact this
    have ht := take_putCells cur (sortedS l) (by rw [sortedS_len]; omega)
    have h1 : ((putCells encStr 0 (sortedS l).toArray cur).toList.take (sortedS l).length)[i]? = ((sortedS l).map encStr)[i]? := by rw [ht]
    rw [List.getElem?_take_of_lt hi2, Array.getElem?_toList] at h1
    have hp : s = ⟨((sortedS l)[i]).toArray⟩ := by
      unfold sortedB at hi
      rw [List.getElem?_map, List.getElem?_eq_getElem hi2] at hi
      simpa using hi.symm
    unfold World.cell?
    rw [hh]
    simp only
    rw [h1, List.getElem?_map, List.getElem?_eq_getElem hi2, hp]
    rfl
structure RiseC (w : World) : Prop where
  out : ∀ (ts : List ByteArray) (w' : World) (x : Value), ts.length < 4611686018427387904 → Below w.heap.size w w' → FRep w' (fun b _ => b < w'.heap.size) (strs ts) x → Calls Tryz.prog 99 #[x] w' fun e w'' => e = .returned (.bool (riseP none ts)) ∧ Below w'.heap.size w' w''
theorem below_sorted {B : Nat} {w0 w1 : World} {n g : Nat} {D : Array (List UInt8)} {os : Array Obj} (h : Below B w0 w1) (hg : B ≤ g) (hgl : g < w1.heap.size) : Below B w0 (grow (putRow encStr (Sort.ahead w1 n) g 0 D) os) := by
  refine ⟨h.os, h.tape, h.output, ?_, fun k hk => ?_⟩
  · have := h.size
    simp [grow, putRow, mapBlock, Sort.ahead]; omega
  · rw [heap_grow_old _ _ (by simp [putRow, mapBlock, Sort.ahead]; omega), ← h.block k hk]
    simp only [putRow, mapBlock, Sort.ahead]
    rw [Array.getElem?_modify, if_neg (by omega)]
set_option maxHeartbeats 8000000 in
set_option maxRecDepth 100000 in
theorem once_nil (n c : Nat) (w : World) (hr : RiseC w) : Calls Tryz.prog 91 #[.slice none n c] w fun e w' => e = .returned (.bool (riseP none [])) ∧ Below w.heap.size w w' := by
  go_enter Tryz.func91, Tryz.ntmps91
  go_wp2_with (go_at_fn 131)
  refine (Tryz.slices_Clone_string_nil n c w).mono ?_
  rintro e w' ⟨rfl, rfl⟩
  go_wp2_with (go_at_fn 132)
  refine (Tryz.slices_Sort_string_none none 0 w').mono ?_
  rintro e w'' ⟨rfl, rfl⟩
  go_wp2_with (go_at_fn 99)
  refine (hr.out [] w'' (.slice none 0 0) (by decide) (.refl _ _) .nil).mono ?_
  rintro e w3 ⟨rfl, hb⟩
  go_wp2
  go_ret
  exact ⟨rfl, hb⟩
set_option maxHeartbeats 8000000 in
set_option maxRecDepth 100000 in
theorem once_zero (a : Addr) (c : Nat) (w : World) (hr : RiseC w) : Calls Tryz.prog 91 #[.slice (some a) 0 c] w fun e w' => e = .returned (.bool (riseP none [])) ∧ Below w.heap.size w w' := by
  go_enter Tryz.func91, Tryz.ntmps91
  go_wp2_with (go_at_fn 131)
  refine (Tryz.slices_Clone_string_zero a c w).mono ?_
  rintro e w1 ⟨v, rfl, h1, h2, h3⟩
  rcases h1.2 with ⟨rfl, _⟩ | ⟨g, cap, cur, rfl, _⟩
  · exact absurd rfl h2
  go_wp2_with (go_at_fn 132)
  refine (Tryz.slices_Sort_string_none (some ⟨g, 0, none⟩) cap w1).mono ?_
  rintro e w2 ⟨rfl, rfl⟩
  go_wp2_with (go_at_fn 99)
  refine (hr.out [] w2 (.slice (some ⟨g, 0, none⟩) 0 cap) (by decide) h3 .emp).mono ?_
  rintro e w3 ⟨rfl, hb⟩
  go_wp2
  go_ret
  exact ⟨rfl, h3.trans (hb.mono h3.size)⟩
set_option maxHeartbeats 8000000 in
set_option maxRecDepth 100000 in
theorem once_row (b off c : Nat) (l : List ByteArray) (w : World) (hl : l.length * 16 ≤ 140737488355328) (hc : ∀ j, j < l.length → w.cell? ⟨b, off + j, none⟩ = some (.string (l.getD j ByteArray.empty))) (hr : RiseC w) :
    Calls Tryz.prog 91 #[.slice (some ⟨b, off, none⟩) l.length c] w fun e w' => e = .returned (.bool (riseP none (sortedB l))) ∧ Below w.heap.size w w' := by
  have HC := Aside0.mk hc
  clear hc
  go_enter Tryz.func91, Tryz.ntmps91
  go_wp2_with (go_at_fn 131)
  refine (Tryz.slices_Clone_string b off l.length c l w (Nat.le_refl _) hl HC.out).mono ?_
  rintro e w1 ⟨v, rfl, h1, h2, h3⟩
  rcases h1.2 with ⟨rfl, _⟩ | ⟨g, cap, cur, rfl, hb, hg, hn, hm, hs, ht⟩
  · exact absurd rfl h2
  have hH : Holds encStr w1 g 0 (l.map (·.data.toList)).toArray := holds_of_block hg (by
    rw [List.length_map]
    rw [Nat.mul_one, List.take_length] at ht
    rw [ht, List.map_map]
    apply List.map_congr_left
    intro x _
    simp [encStr])
  have HH := Aside0.mk hH
  clear hH
  have hg1 : g < w1.heap.size := (Array.getElem?_eq_some_iff.1 hg).1
  have X := Aside0.mk (And.intro hg (And.intro hn (And.intro hs h1)))
  clear hg hn hs ht h1
  go_wp2_with (go_at_fn 132)
  have hsort := Tryz.slices_Sort_string g 0 cap (l.map (·.data.toList)) w1 HH.out hg1 (by rw [List.length_map]; omega)
  rw [List.length_map] at hsort
  refine hsort.mono ?_
  rintro e w2 ⟨rfl, k, os, rfl⟩
  obtain ⟨hg, hn, hs, h1⟩ := X.out
  have hrep := sorted_rep (k := k) (os := os) (l := l) hg rfl hn (by omega)
  have hb2 := below_sorted (n := k) (D := (sortedS l).toArray) (os := os) h3 hb hg1
  change FRep (grow (putRow encStr (Sort.ahead w1 k) g 0 ((l.map (·.data.toList)).mergeSort fun x y => decide (x ≤ y)).toArray) os) _ _ _ at hrep
  change Below _ _ (grow (putRow encStr (Sort.ahead w1 k) g 0 ((l.map (·.data.toList)).mergeSort fun x y => decide (x ≤ y)).toArray) os) at hb2
  have hrise := hr.out (sortedB l) _ _ (by rw [sortedB_len]; omega) hb2 hrep
  have Y := Aside0.mk hb2
  clear hb2 hrep
  generalize grow (putRow encStr (Sort.ahead w1 k) g 0 ((l.map (·.data.toList)).mergeSort fun x y => decide (x ≤ y)).toArray) os = w2 at hrise Y ⊢
  go_wp2_with (go_at_fn 99)
  refine hrise.mono ?_
  rintro e w3 ⟨rfl, hb3⟩
  go_wp2
  go_ret
  exact ⟨rfl, Y.out.trans (hb3.mono Y.out.size)⟩
/-- No text is there twice, just if the sorted ones rise. -/
theorem data_inj {a b : ByteArray} (h : a.data.toList = b.data.toList) : a = b := by
  cases a; cases b
  simp only at h
  congr
  exact Array.toList_inj.1 h
theorem lt2_eq (a b : ByteArray) : lt2 a b = decide (a.data.toList < b.data.toList) := by
  unfold lt2
  rw [ByteArray.toList_eq, ByteArray.toList_eq]
  exact bytesLess_eq _ _
theorem riseP_pair : ∀ (l : List ByteArray) (p : Option ByteArray), riseP p l = true ↔ ((∀ y ∈ p, ∀ x ∈ l, y.data.toList < x.data.toList) ∧ l.Pairwise fun x y => x.data.toList < y.data.toList)
  | [], p => by simp [riseP]
  | x :: l, none => by
    simp only [riseP, riseP_pair l (some x), List.pairwise_cons]
    simp
  | x :: l, some y => by
    simp only [riseP, Bool.and_eq_true, riseP_pair l (some x), List.pairwise_cons, lt2_eq, decide_eq_true_eq]
    simp only [Option.mem_def, Option.some.injEq, forall_eq', List.mem_cons, forall_eq_or_imp]
    constructor
    · rintro ⟨h1, h2, h3⟩
      exact ⟨⟨h1, fun z hz => List.lt_trans h1 (h2 z hz)⟩, h2, h3⟩
    · rintro ⟨⟨h1, _⟩, h2, h3⟩
      exact ⟨h1, h2, h3⟩
theorem le_of (a b : List UInt8) : decide (a ≤ b) = true ↔ ¬ b < a := by simp [List.not_lt]
theorem sortedS_pair (l : List ByteArray) : (sortedS l).Pairwise fun x y => x ≤ y := by
  unfold sortedS
  have := List.pairwise_mergeSort (le := fun (x y : List UInt8) => decide (x ≤ y)) (fun a b c h1 h2 => by
    simp only [decide_eq_true_eq] at *
    exact List.le_trans h1 h2) (fun a b => by
    simp only [Bool.or_eq_true, decide_eq_true_eq]
    exact List.le_total a b) (l.map (·.data.toList))
  exact this.imp fun h => by simpa using h
theorem rise_nodup (l : List ByteArray) : riseP none (sortedB l) = decide l.Nodup := by
  have hnd : (sortedS l).Nodup ↔ l.Nodup := by
    have hp : (sortedS l).Perm (l.map (·.data.toList)) := List.mergeSort_perm _ _
    rw [hp.nodup_iff]
    unfold List.Nodup
    rw [List.pairwise_map]
    exact ⟨fun h => h.imp fun h e => h (by rw [e]), fun h => h.imp fun h e => h (data_inj e)⟩
  rw [Bool.eq_iff_iff, decide_eq_true_eq, riseP_pair, ← hnd]
  have e : (sortedB l).Pairwise (fun x y => x.data.toList < y.data.toList) ↔ (sortedS l).Pairwise fun x y => x < y := by
    rw [← sortedB_S, List.pairwise_map]
  rw [e]
  constructor
  · rintro ⟨_, h⟩
    exact h.imp fun h e => by rw [e] at h; exact List.lt_irrefl _ h
  · intro h
    refine ⟨by simp, ?_⟩
    exact (List.pairwise_and_iff.2 ⟨sortedS_pair l, h⟩).imp fun ⟨h1, h2⟩ => by
      rcases List.le_iff_lt_or_eq.1 h1 with h | h
      · exact h
      · exact absurd h h2
/-- The texts that cells are. -/
def strsOf : List (List AV) → Option (List ByteArray)
  | [] => some []
  | [.v (.string s)] :: l => (strsOf l).map fun m => s :: m
  | _ => none
theorem strsOf_eq : ∀ {es : List (List AV)} {l : List ByteArray}, strsOf es = some l → es = l.map fun w => [.v (.string w)]
  | [], l, h => by simp only [strsOf, Option.some.injEq] at h; subst h; rfl
  | e :: es, l, h => by
    unfold strsOf at h
    split at h
    · cases ‹_ = []›
    · rename_i s l' he
      obtain ⟨rfl, rfl⟩ := List.cons.inj he
      obtain ⟨m, hm, rfl⟩ := Option.map_eq_some_iff.1 h
      rw [strsOf_eq hm]
      rfl
    · cases h
theorem strsOf_map (l : List ByteArray) : strsOf (l.map fun w => [.v (.string w)]) = some l := by
  induction l with
  | nil => rfl
  | cons x l ih => simp only [List.map_cons, strsOf, ih, Option.map_some]
def primsO : Eng.Call := fun f args => match f, args with
  | 91, [.fsl es] => (strsOf es).bind fun l => if l.length < 8796093022208 then some (.v (.bool (decide l.Nodup))) else none
  | f, args => primsR f args
theorem rise_calls (hp : CallOk2 Tryz.prog powG prims) {S : Nat → Nat → Prop} (w : World) (hS : ∀ b i, S b i → b < w.heap.size) (hG : GlobOk powG w S) : RiseC w := ⟨by
  intro ts w' x hl hb hx
  obtain ⟨_, hc⟩ := (D_sound mixed defsOk hp).1 _ _ _ (d_rise ts hl)
  have hG' := glob_below hG hS hb
  refine (hc w' (fun b _ => b < w'.heap.size) #[x] (fun b i h => h) ⟨fun n => (hG'.1 n).imp id fun h => h.mono fun b i hs => ⟨Nat.lt_of_lt_of_le (hS b i hs) hb.size, rfl⟩, hG'.2⟩ rfl fun i c y hc hy => ?_).mono fun e w'' ⟨y, he, hb, hr⟩ => ?_
  · match i with
    | 0 => cases hc; cases hy; exact hx
    | n + 1 => cases hc
  · obtain ⟨ν, _, _, _, h4⟩ := hr 0 0
    have : y = .bool (riseP none ts) := h4.v_inv
    subst this
    exact ⟨he, hb⟩⟩
theorem primsOOk (hp : CallOk2 Tryz.prog powG prims) : CallOk2 Tryz.prog powG primsO := by
  refine ⟨fun f args r h => ?_, fun f ls xs r h => by
    unfold primsO at h
    split at h
    · rename_i he; cases he
    · exact (primsROk hp).2 _ _ _ _ h⟩
  unfold primsO at h
  split at h
  · rename_i es
    obtain ⟨l, hl, h⟩ := Option.bind_eq_some_iff.1 h
    split at h
    · rename_i hlen
      obtain rfl := Option.some.inj h
      obtain rfl := strsOf_eq hl
      refine ⟨⟨_, Tryz.func91, by kernel_rfl, by kernel_rfl⟩, fun w S vargs hS hG hn ha => ?_⟩
      obtain ⟨x, rfl⟩ : ∃ x, vargs = #[x] := by
        refine ⟨vargs[0]'(by simp at hn; omega), ?_⟩
        apply Array.ext (by simpa using hn)
        intro i h1 h2
        match i, h2 with
        | 0, _ => rfl
      have hx := ha 0 _ x rfl rfl
      have hr := rise_calls hp w hS hG
      generalize hes : (l.map fun w => [AV.v (.string w)]) = es at hx
      cases hx with
      | nil =>
        have : l = [] := by simpa using hes
        subst this
        exact (once_nil 0 0 w hr).mono (fun e w' ⟨he, hb⟩ => by
          subst he
          refine ⟨_, rfl, hb, fun d j => ⟨fun _ => none, fun k b base h => (by cases h), fun k k' b i i' h => (by cases h), fun k x h => (by cases h), ?_⟩⟩
          exact FRep.v rfl)
      | emp =>
        have : l = [] := by simpa using hes
        subst this
        exact (once_zero _ _ w hr).mono (fun e w' ⟨he, hb⟩ => by
          subst he
          refine ⟨_, rfl, hb, fun d j => ⟨fun _ => none, fun k b base h => (by cases h), fun k k' b i i' h => (by cases h), fun k x h => (by cases h), ?_⟩⟩
          exact FRep.v rfl)
      | @sl _ b o cap sz X hk hl2 hc hrr =>
        have hel : es.length = l.length := by rw [← hes, List.length_map]
        rw [hel]
        have := once_row b o cap l w (by omega) (fun j hj => by
          have he : es[j]? = some [.v (.string l[j])] := by rw [← hes, List.getElem?_map, List.getElem?_eq_getElem hj]; rfl
          obtain ⟨_, h2, _⟩ := hc j _ 0 _ he rfl
          have h3 := frepv (hrr j _ 0 _ he rfl)
          have h4 := hl2 j _ he
          simp at h4
          subst h4
          rw [h3] at h2
          rw [show o + (j * 1 + 0) = o + j by omega] at h2
          rw [h2]
          simp [List.getD_eq_getElem?_getD, hj]) hr
        rw [rise_nodup] at this
        exact this.mono (fun e w' ⟨he, hb⟩ => by
          subst he
          refine ⟨_, rfl, hb, fun d j => ⟨fun _ => none, fun k b base h => (by cases h), fun k k' b i i' h => (by cases h), fun k x h => (by cases h), ?_⟩⟩
          exact FRep.v rfl)
    · cases h
  · exact (primsROk hp).1 _ _ _ h
end Go.Proofs.YtmhdapjmndfkgaaGreatDoor.Prim
