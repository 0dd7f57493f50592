/- slices.Grow at []string, of nil: room for so many; for the engine. -/
import Derived.Test.YtmhdapjmndfkgaaGreatDoorOnce
namespace Go.Proofs.YtmhdapjmndfkgaaGreatDoor.Prim
open Go Go.RowKit Go.Proofs.YtmhdapjmndfkgaaGreatDoor.Eng Go.Sort
set_option linter.unusedSimpArgs false
set_option linter.unusedVariables false
theorem frepn {w : World} {S : Nat → Nat → Prop} {x y : Value} (h : FRep w S (.v x) y) : y = x := by cases h; rfl
def primsG : Eng.Call := fun f args => match f, args with
  | 133, [.v (.slice none 0 0), .v (.int .i64 n)] => if 0 ≤ n ∧ n ≤ 4398046511104 then some (.own 1 true []) else none
  | f, args => primsO f args
theorem zeroCells_size (n : Nat) : (Builtin.zeroCells #[Value.string ⟨#[]⟩] n).size = n := by
  simp [Builtin.zeroCells]
theorem primsGOk (hp : CallOk2 Tryz.prog powG prims) : CallOk2 Tryz.prog powG primsG := by
  refine ⟨fun f args r h => ?_, fun f ls xs r h => by
    unfold primsG at h
    split at h
    · rename_i he; cases he
    · exact (primsOOk hp).2 _ _ _ _ h⟩
  unfold primsG at h
  split at h
  · rename_i n
    split at h
    · rename_i hn
      obtain rfl := Option.some.inj h
      refine ⟨⟨_, Tryz.func133, by kernel_rfl, by kernel_rfl⟩, fun w S vargs hS hG hl ha => ?_⟩
      obtain ⟨m, rfl⟩ : ∃ m : Nat, n = m := ⟨n.toNat, by omega⟩
      have h0 := ha 0 _ (vargs[0]'(by simp at hl; omega)) rfl (Array.getElem?_eq_getElem _)
      have h1 := ha 1 _ (vargs[1]'(by simp at hl; omega)) rfl (Array.getElem?_eq_getElem _)
      have hva : vargs = #[.slice none 0 0, .int .i64 m] := by
        apply Array.ext (by simpa using hl)
        intro i h2 h3
        match i, h3 with
        | 0, _ => exact frepn h0
        | 1, _ => exact frepn h1
      subst hva
      rcases Nat.eq_zero_or_pos m with rfl | hm
      · refine (Tryz.slices_Grow_room none 0 0 0 w (Nat.le_refl _) (by decide) (by decide) (by decide)).mono ?_
        rintro e w' ⟨rfl, rfl⟩
        refine ⟨_, rfl, .refl _ _, fun d j => ⟨fun _ => none, fun k b base h => (by cases h), fun k k' b i i' h => (by cases h), fun k x h => ?_, ?_⟩⟩
        · simp only [impU, impA, imp1, getO] at h
          split at h
          · cases h
            exact ⟨fun _ => rfl, .inl ⟨rfl, rfl⟩⟩
          · cases h
        · exact ⟨0, 1, true, false, by simp [impU, impA, imp1, mkC, getO], Nat.le_refl _, fun _ => rfl, fun i e h => by simp at h, .inl ⟨rfl, rfl, fun _ => rfl⟩⟩
      · obtain ⟨i0, hi, hz⟩ : ∃ i0, Tryz.prog.info? 9 = some i0 ∧ i0.zero = some (.string ⟨#[]⟩) ∧ i0.size = 1 ∧ i0.bytes = 16 := by
          have e1 : (Tryz.prog.info? 9).bind (·.zero) = some (.string ⟨#[]⟩) := by kernel_rfl
          have e2 : (Tryz.prog.info? 9).map (·.size) = some 1 := by kernel_rfl
          have e3 : (Tryz.prog.info? 9).map (·.bytes) = some 16 := by kernel_rfl
          cases hi : Tryz.prog.info? 9 with
          | none => rw [hi] at e1; cases e1
          | some i0 =>
            rw [hi] at e1 e2 e3
            exact ⟨i0, rfl, e1, Option.some.inj e2, Option.some.inj e3⟩
        have hg : 0 + m ≤ grownCap w (0 + m) 0 9 := grownCap_ge ..
        refine (Tryz.slices_Grow_grow i0 (.string ⟨#[]⟩) hi hz.1 (by rw [hz.2.1]; decide) none 0 0 m [] w (Nat.le_refl _) (by omega) (by rw [hz.2.2]; omega) (by omega) (by simp) (fun _ => rfl) (fun a h => by cases h)).mono ?_
        rintro e w' ⟨rfl, rfl⟩
        generalize grownCap w (0 + m) 0 9 = cap at hg ⊢
        have hsz : (w.drew.alloc (.cells (([] : List Value).toArray ++ Builtin.zeroCells (Value.string ⟨#[]⟩).cells (0 + m - 0) ++ Builtin.zeroCells (Value.string ⟨#[]⟩).cells (cap - (0 + m))) 9)).heap.size = w.heap.size + 1 := by
          show (w.heap.push _).size = _
          rw [Array.size_push]
        have hcell : (w.drew.alloc (.cells (([] : List Value).toArray ++ Builtin.zeroCells (Value.string ⟨#[]⟩).cells (0 + m - 0) ++ Builtin.zeroCells (Value.string ⟨#[]⟩).cells (cap - (0 + m))) 9)).heap[w.heap.size]? = some (.cells (([] : List Value).toArray ++ Builtin.zeroCells (Value.string ⟨#[]⟩).cells (0 + m - 0) ++ Builtin.zeroCells (Value.string ⟨#[]⟩).cells (cap - (0 + m))) 9 (0, 0)) := by
          show (w.heap.push _)[w.heap.size]? = _
          rw [Array.getElem?_push, if_pos rfl]
        have hxs : (([] : List Value).toArray ++ Builtin.zeroCells (Value.string ⟨#[]⟩).cells (0 + m - 0) ++ Builtin.zeroCells (Value.string ⟨#[]⟩).cells (cap - (0 + m))).size = cap := by
          simp only [Value.cells, Array.size_append, zeroCells_size, List.size_toArray, List.length_nil]
          omega
        refine ⟨_, rfl, ⟨rfl, rfl, rfl, by rw [hsz]; omega, fun k hk => by
          show (w.heap.push _)[k]? = _
          rw [Array.getElem?_push, if_neg (Nat.ne_of_lt hk)]⟩, fun d j => ⟨fun k => if k = (d, j) then some (w.heap.size, 0) else none, fun k b base h => ?_, fun k k' b i i' h h' => ?_, fun k x h => ?_, ?_⟩⟩
        · dsimp only at h
          split at h
          · rename_i hk
            cases h
            subst hk
            exact ⟨by simp [impU, impA, imp1, getO], .inl (Nat.le_refl _), by rw [hsz]; omega⟩
          · cases h
        · dsimp only at h h'
          split at h <;> split at h'
          · rename_i h1 h2; rw [h1, h2]
          · cases h'
          · cases h
          · cases h
        · simp only [impU, impA, imp1, getO] at h
          split at h
          · rename_i hk
            cases h
            refine ⟨fun _ => rfl, .inr ⟨w.heap.size, 0, _, _, ?_, hcell, ?_⟩⟩
            · show (if k = (d, j) then _ else _) = _
              rw [if_pos hk.symm]
            · exact ⟨by simp, fun _ h => by cases h⟩
          · cases h
        · refine ⟨0, 1, true, false, by simp [impU, impA, imp1, mkC, getO], Nat.le_refl _, fun _ => rfl, fun i e h => by simp at h, .inr ⟨w.heap.size, 0, cap, fun _ _ => default, rfl, Nat.zero_le _, fun _ => ⟨?_, _, _, hcell, by rw [hxs]; show 0 + cap * 1 ≤ cap; omega⟩, fun i e j c h => by simp at h⟩⟩
          show (if (d, j) = (d, j) then _ else _) = _
          rw [if_pos rfl]
    · cases h
  · exact (primsOOk hp).1 _ _ _ h
end Go.Proofs.YtmhdapjmndfkgaaGreatDoor.Prim
