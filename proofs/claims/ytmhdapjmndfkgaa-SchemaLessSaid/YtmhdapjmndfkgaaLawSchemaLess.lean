/- The row of 'ecdysis/ecdysislaw15.SchemaLess': whatever the input, the call returns true and leaves what it was given. Conditions: none but the row's own. -/
import Derived.Test.YtmhdapjmndfkgaaRows
import Derived.Test.YtmhdapjmndfkgaaScF
import Derived.Test.YtmhdapjmndfkgaaEng6
import Derived.WalkKit
import Derived.ProofKit
import Derived.OpenShut
import Derived.ShutString
import Derived.ChangeOld
import Derived.Below
import Derived.Carry
import Derived.SizedLaws
namespace Go.Proofs.Ytmhdapjmndfkgaa.schemaLess
open Go.ChangeShapes Go.WideShapes Go.ChangeAt Go.RowKit Go.Proofs.Ytmhdapjmndfkgaa.Eng
set_option linter.unusedVariables false
theorem own : ownKnob Try.prog.godebug = none := by kernel_rfl
theorem laidOut : laidOutB Try.prog = true := by kernel_rfl
theorem tsOk : ([25, 5, 22, 23, 41, 34, 9, 39, 31, 32, 43, 36, 3, 4] : List TypeId).all (layB Try.prog [25, 5, 22, 23, 41, 34, 9, 39, 31, 32, 43, 36, 3, 4]) = true := by kernel_rfl
set_option maxRecDepth 100000 in
theorem lifted (os : Os) (started : os.Started) (H : Type) (enc : TypeId × Value → H) :
    ReturnsInHanded {} Try.checked os 3 .any (Rows.schemaLessSpec.pre6 enc Try.prog Try.f3 Rows.schemaLessRow.domain false) (Rows.schemaLessSpec.post enc Try.prog Try.f3 false true false false) := by
  refine returnsInHanded_of_change_sized (C := Try.checked) own started (by kernel_rfl) Try.func3
    (ChangeSpec.witness6 (enc := enc) (C := Try.checked) false ⟨#[], #[.agg #[.slice none 0 0, .slice none 0 0], .int .u8 0], []⟩ 8 (by kernel_rfl) (by kernel_rfl) (by kernel_rfl) (by kernel_rfl)) ?_
  intro W base args ds gs before hval0 hW hcnd hsz0 _
  have hsz : (DataW.weightsEach Try.prog (Try.f3.params.toList ++ Rows.schemaLessSpec.plain.varTypes Try.prog) (ds ++ gs)).all (· ≤ reachBytes) = true := hsz0
  have hval : ∀ (j : Nat) t v, Try.f3.params[j]? = some t → args[j]? = some v → Value.okWide Try.prog W .any base t v := hval0
  have hW' := hW
  obtain ⟨p, q, hA0, hV, rfl, hfz, hnd⟩ := hW
  have hA : DataW.TrodAll enc Try.prog W 0 (fun _ => true) true Try.f3.params.toList args.toList ds p := hA0
  rw [Try.params3] at hA hval hsz
  obtain ⟨v0, vs0, d0, ds0, p0, q0, hargs, rfl, rfl, h0, r0⟩ := trodAll_cons hA
  obtain ⟨v1, vs1, d1, ds1, p1, q1, rfl, rfl, rfl, h1, r1⟩ := trodAll_cons r0
  obtain ⟨rfl, rfl, rfl⟩ := trodAll_nil r1
  obtain rfl : args = #[v0, v1] := by cases args; simp_all
  obtain ⟨rfl, rfl⟩ := trodVars_none hV
  have k0 := h0
  have lt0 : ∀ x ∈ p0, x.block < W.heap.size := by obtain ⟨m, hm⟩ := k0; exact DataW.trod_lt m _ _ _ hm
  have sz0 : ∀ n ∈ d0.weights Try.prog 25, n ≤ 140737488351232 := fun n hn => of_decide_eq_true (List.all_eq_true.1 hsz n (weights_at (j := 0) (t := 25) (d := d0) rfl rfl n hn))
  obtain ⟨l0, A0, F0⟩ := arg_open tsOk (t := 25) (ag := true) (by kernel_rfl) (by kernel_rfl) (hval 0 25 v0 rfl rfl) h0 sz0
  have k1 := h1
  have lt1 : ∀ x ∈ p1, x.block < W.heap.size := by obtain ⟨m, hm⟩ := k1; exact DataW.trod_lt m _ _ _ hm
  have sz1 : ∀ n ∈ d1.weights Try.prog 5, n ≤ 140737488351232 := fun n hn => of_decide_eq_true (List.all_eq_true.1 hsz n (weights_at (j := 1) (t := 5) (d := d1) rfl rfl n hn))
  obtain ⟨l1, A1, F1⟩ := arg_open tsOk (t := 5) (ag := false) (by kernel_rfl) (by kernel_rfl) (hval 1 5 v1 rfl rfl) h1 sz1
  clear hA0 hval0 hsz0 hsz
  refine (law_calls' Sc.mixed Sc.defsOk (Prim.primsGOk noPrims) ⟨fun _ => .inl rfl, fun _ _ h => by cases h⟩ (f := 3) (args := [argA true l0, argA false l1]) (vargs := #[v0, v1]) (Sc.B.law_SchemaLess l0 l1 A0 A1) (show RepsW W [argA true l0, argA false l1] [v0, v1] from ⟨F0, F1, trivial⟩)).mono fun e W' ⟨he, bel⟩ => ?_
  subst he
  exact ⟨_, rfl, _, _, _, [], _, [], hW', trodAll_mk1 (shut_bool Try.underlying4 _), (trodAll_cons_mk (Below.trod laidOut (by kernel_rfl) (of_decide_eq_true (by kernel_rfl)) k0 bel lt0) (trodAll_cons_mk (Below.trod laidOut (by kernel_rfl) (of_decide_eq_true (by kernel_rfl)) k1 bel lt1) trodAll_mk0)), rfl, bel.frame _, fun h => by cases h⟩
theorem over : Rows.schemaLessRow.holds Try.pinned (OpenSpec.ofChange Rows.schemaLessSpec) :=
  OpenClaim.holds_of_wide 3 Try.f3 rfl rfl rfl rfl rfl rfl rfl ⟨rfl, rfl, rfl, rfl, rfl⟩ rfl rfl rfl rfl rfl (by kernel_rfl) Try.func3 (by kernel_rfl)
    (of_decide_eq_true (by kernel_rfl)) (by unfold Func.isWrapper; first | (rw [if_pos (by decide +kernel)]; kernel_rfl) | (rw [if_neg (by decide +kernel)]; exact ⟨rfl, rfl⟩))
    (fun os started H enc _ => lifted os started H enc)
theorem proved : Rows.SchemaLessSaid := over
#print axioms proved
end Go.Proofs.Ytmhdapjmndfkgaa.schemaLess
namespace Go.Proofs.Ytmhdapjmndfkgaa
/-- The row, under a short name, for the claim. -/
theorem schemaLess_holds : Rows.SchemaLessSaid := schemaLess.proved
end Go.Proofs.Ytmhdapjmndfkgaa
