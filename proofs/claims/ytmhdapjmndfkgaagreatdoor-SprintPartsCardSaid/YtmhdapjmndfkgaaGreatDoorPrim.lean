/- The calls of the library that the engine takes as told: strconv.FormatUint at base 10. -/
import Derived.Test.YtmhdapjmndfkgaaGreatDoorFmt
import Derived.Test.YtmhdapjmndfkgaaGreatDoorEng6
namespace Go.Proofs.YtmhdapjmndfkgaaGreatDoor.Prim
open Go Go.RowKit Go.Sort Go.Lib Go.Proofs.YtmhdapjmndfkgaaGreatDoor.Eng
theorem outer (u : Nat) (hu64 : u < 18446744073709551616) (w : World) (htab : TabIs Tryz.prog w "internal/strconv.uint64pow10" .u64 pow10Tab) :
    Calls Tryz.prog 120 #[.int .u64 u, .int .i64 10] w fun e w' => e = .returned (.string ⟨(decDigits u).toArray⟩) ∧ ∃ k os, w' = grow (w.drewN k) os := by
  go_enter Tryz.func120, Tryz.ntmps120
  go_wp2_with (go_at_fn 152)
  refine (Fmt.inner u hu64 _ htab).mono ?_
  rintro e w' ⟨rfl, k, os, rfl⟩
  go_wp2
  go_ret
  exact ⟨rfl, k, os, rfl⟩
theorem frep_v {w : World} {S : Nat → Nat → Prop} {x y : Value} (h : FRep w S (.v x) y) : y = x := by cases h; rfl
def powG : Nat → AV := fun n => if n = 3 then .fptr (pow10Tab.map fun z => .v (.int .u64 z)) else .undef
def prims : Eng.Call := fun f args => match f, args with
  | 120, [.v (.int .u64 n), .v (.int .i64 10)] => if 0 ≤ n ∧ n < 18446744073709551616 then some (.v (.string ⟨(decDigits n.toNat).toArray⟩)) else none
  | _, _ => none
theorem below_grown (w : World) (k : Nat) (os : Array Obj) : Below w.heap.size w (grow (w.drewN k) os) :=
  ⟨rfl, rfl, rfl, by simp [grow], fun i hi => heap_grow_old _ _ (by simpa using hi)⟩
theorem tab_of {w : World} {S : Nat → Nat → Prop} (hG : GlobOk powG w S) : TabIs Tryz.prog w "internal/strconv.uint64pow10" .u64 pow10Tab := by
  have h0 : powG 3 = .fptr (pow10Tab.map fun z => .v (.int .u64 z)) := rfl
  obtain ⟨xs, T, fr, h1, h2⟩ := hG.2 3 _ h0
  have h3 := (hG.1 3).resolve_left (by rw [h0]; intro h; cases h)
  rw [h0] at h3
  have hg : Tryz.prog.globalNamed "internal/strconv.uint64pow10" = some 3 := by kernel_rfl
  unfold TabIs World.var?
  rw [hg]
  simp only [Option.bind_some, h1, Option.some.injEq]
  cases h3 with
  | @ptr cs b o X hc hr =>
    apply Array.ext'
    apply List.ext_getElem?
    intro i
    by_cases hi : i < xs.size
    · have hlen : i < (pow10Tab.map fun z => AV.v (Value.int .u64 z)).length := by rw [← h2]; exact hi
      obtain ⟨hs, hcell, _⟩ := hc i _ (List.getElem?_eq_getElem hlen)
      have hrep := hr i _ (List.getElem?_eq_getElem hlen)
      simp only [List.getElem_map] at hrep
      have e1 : w.cell? ⟨3, 0 + i, none⟩ = xs[i]? := by simp [World.cell?, h1]
      rw [hcell, frep_v hrep] at e1
      simp only [List.length_map] at hlen
      rw [Array.getElem?_toList, ← e1]
      simp [hlen]
    · have hlen : (pow10Tab.map fun z => AV.v (Value.int .u64 z)).length ≤ i := by rw [← h2]; omega
      simp only [List.length_map] at hlen
      rw [List.getElem?_eq_none (by simpa using hi), List.getElem?_eq_none (by simpa using hlen)]
theorem glob_of {w : World} (h : TabIs Tryz.prog w "internal/strconv.uint64pow10" .u64 pow10Tab) : GlobOk powG w (All w) := by
  have hg : Tryz.prog.globalNamed "internal/strconv.uint64pow10" = some 3 := by kernel_rfl
  have hcell : ∀ i, i < pow10Tab.length → w.cell? ⟨3, i, none⟩ = some (.int .u64 (pow10Tab.getD i 0)) := fun i hi => h.cell hg i hi
  unfold TabIs World.var? at h
  rw [hg] at h
  simp only [Option.bind_some] at h
  have hb : ∃ xs T fr, w.heap[3]? = some (.cells xs T fr) ∧ xs.size = pow10Tab.length := by
    split at h
    · rename_i cs T fr hh
      refine ⟨cs, T, fr, hh, ?_⟩
      obtain rfl := Option.some.inj h
      simp
    · cases h
  have hlt : 3 < w.heap.size := by
    obtain ⟨xs, T, fr, h1, _⟩ := hb
    cases hz : decide (3 < w.heap.size) with
    | true => exact of_decide_eq_true hz
    | false =>
      have := of_decide_eq_false hz
      rw [Array.getElem?_eq_none (by omega)] at h1
      cases h1
  refine ⟨fun n => ?_, fun n cs hn => ?_⟩
  · unfold powG
    by_cases hn : n = 3
    · subst hn
      refine .inr ?_
      rw [if_pos rfl]
      refine .ptr (fun j => .int .u64 (pow10Tab.getD j 0)) (fun j c hc => ?_) (fun j c hc => ?_)
      · rw [List.getElem?_map, Option.map_eq_some_iff] at hc
        obtain ⟨z, hz, rfl⟩ := hc
        have hj := (List.getElem?_eq_some_iff.1 hz).1
        exact ⟨hlt, by rw [Nat.zero_add]; exact hcell j hj, rfl⟩
      · rw [List.getElem?_map, Option.map_eq_some_iff] at hc
        obtain ⟨z, hz, rfl⟩ := hc
        have : pow10Tab.getD j 0 = z := by simp [List.getD_eq_getElem?_getD, hz]
        rw [this]
        exact .v rfl
    · rw [if_neg hn]; exact .inl rfl
  · unfold powG at hn
    split at hn
    · rename_i h0
      subst h0
      cases hn
      obtain ⟨xs, T, fr, h1, h2⟩ := hb
      exact ⟨xs, T, fr, h1, by simpa using h2⟩
    · cases hn
theorem primsOk : CallOk Tryz.prog powG prims := by
  intro f args r h
  unfold prims at h
  split at h
  · rename_i n
    split at h
    · rename_i hn
      obtain rfl := Option.some.inj h
      refine ⟨⟨_, Tryz.func120, by kernel_rfl, by kernel_rfl⟩, fun w S vargs hS hG hl ha => ?_⟩
      have hv0 : vargs[0]? = some (.int .u64 n) := by
        have := ha 0 _ (vargs[0]'(by simp at hl; omega)) rfl (Array.getElem?_eq_getElem _)
        rw [← frep_v this]
        exact Array.getElem?_eq_getElem _
      have hv1 : vargs[1]? = some (.int .i64 10) := by
        have := ha 1 _ (vargs[1]'(by simp at hl; omega)) rfl (Array.getElem?_eq_getElem _)
        rw [← frep_v this]
        exact Array.getElem?_eq_getElem _
      obtain ⟨u, rfl⟩ : ∃ u : Nat, n = u := ⟨n.toNat, by omega⟩
      have hva : vargs = #[.int .u64 u, .int .i64 10] := by
        apply Array.ext (by simpa using hl)
        intro i h1 h2
        match i, h2 with
        | 0, _ => simpa [Array.getElem?_eq_getElem h1] using hv0
        | 1, _ => simpa [Array.getElem?_eq_getElem h1] using hv1
      subst hva
      refine (outer u (by omega) w (tab_of hG)).mono ?_
      rintro e w' ⟨rfl, k, os, rfl⟩
      refine ⟨_, rfl, below_grown w k os, fun d j => ⟨fun _ => none, fun k b base h => (by cases h), fun k k' b i i' h => (by cases h), fun k x h => (by cases h), ?_⟩⟩
      exact FRep.v rfl
    · cases h
  · cases h
end Go.Proofs.YtmhdapjmndfkgaaGreatDoor.Prim
