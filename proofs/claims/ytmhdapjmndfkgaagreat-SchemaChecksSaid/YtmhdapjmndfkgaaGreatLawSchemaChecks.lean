/- The row of 'ecdysis/ecdysislaw15.SchemaChecks': whatever the input, the call returns true and leaves what it was given. Conditions: none but the row's own. -/
import Derived.Test.YtmhdapjmndfkgaaGreatRows
import Derived.Test.YtmhdapjmndfkgaaGreatSkI
import Derived.Test.YtmhdapjmndfkgaaGreatEng6
import Derived.WalkKit
import Derived.ProofKit
import Derived.OpenShut
import Derived.ShutString
import Derived.ChangeOld
import Derived.Below
import Derived.Carry
import Derived.SizedLaws
namespace Go.Proofs.YtmhdapjmndfkgaaGreat.schemaChecks
open Go.ChangeShapes Go.WideShapes Go.ChangeAt Go.RowKit Go.Proofs.YtmhdapjmndfkgaaGreat.Eng
set_option linter.unusedVariables false
theorem own : ownKnob Tryz.prog.godebug = none := by kernel_rfl
theorem laidOut : laidOutB Tryz.prog = true := by kernel_rfl
theorem tsOk : ([25, 22, 23, 42, 37, 9, 40, 34, 35, 44, 39, 3, 4] : List TypeId).all (layB Tryz.prog [25, 22, 23, 42, 37, 9, 40, 34, 35, 44, 39, 3, 4]) = true := by kernel_rfl
set_option maxRecDepth 100000 in
theorem lifted (os : Os) (started : os.Started) (H : Type) (enc : TypeId × Value → H) :
    ReturnsInHanded {} Tryz.checked os 3 .any (Rows.schemaChecksSpec.pre6 enc Tryz.prog Tryz.f3 Rows.schemaChecksRow.domain false) (Rows.schemaChecksSpec.post enc Tryz.prog Tryz.f3 false true false false) := by
  refine returnsInHanded_of_change_sized (C := Tryz.checked) own started (by kernel_rfl) Tryz.func3
    (ChangeSpec.witness6 (enc := enc) (C := Tryz.checked) false ⟨#[], #[.agg #[.slice none 0 0, .slice none 0 0]], []⟩ 8 (by kernel_rfl) (by kernel_rfl) (by kernel_rfl) (by kernel_rfl)) ?_
  intro W base args ds gs before hval0 hW hcnd hsz0 _
  have hsz : (DataW.weightsEach Tryz.prog (Tryz.f3.params.toList ++ Rows.schemaChecksSpec.plain.varTypes Tryz.prog) (ds ++ gs)).all (· ≤ reachBytes) = true := hsz0
  have hval : ∀ (j : Nat) t v, Tryz.f3.params[j]? = some t → args[j]? = some v → Value.okWide Tryz.prog W .any base t v := hval0
  have hW' := hW
  obtain ⟨p, q, hA0, hV, rfl, hfz, hnd⟩ := hW
  have hA : DataW.TrodAll enc Tryz.prog W 0 (fun _ => true) true Tryz.f3.params.toList args.toList ds p := hA0
  rw [Tryz.params3] at hA hval hsz
  obtain ⟨v0, vs0, d0, ds0, p0, q0, hargs, rfl, rfl, h0, r0⟩ := trodAll_cons hA
  obtain ⟨rfl, rfl, rfl⟩ := trodAll_nil r0
  obtain rfl : args = #[v0] := by cases args; simp_all
  obtain ⟨rfl, rfl⟩ := trodVars_none hV
  have k0 := h0
  have lt0 : ∀ x ∈ p0, x.block < W.heap.size := by obtain ⟨m, hm⟩ := k0; exact DataW.trod_lt m _ _ _ hm
  have sz0 : ∀ n ∈ d0.weights Tryz.prog 25, n ≤ 140737488351232 := fun n hn => of_decide_eq_true (List.all_eq_true.1 hsz n (weights_at (j := 0) (t := 25) (d := d0) rfl rfl n hn))
  obtain ⟨l0, A0, F0⟩ := arg_open tsOk (t := 25) (ag := true) (by kernel_rfl) (by kernel_rfl) (hval 0 25 v0 rfl rfl) h0 sz0
  clear hA0 hval0 hsz0 hsz
  refine (law_calls' Sk.mixed Sk.defsOk (Prim.primsGOk noPrims) ⟨fun _ => .inl rfl, fun _ _ h => by cases h⟩ (f := 3) (args := [argA true l0]) (vargs := #[v0]) (Sk.B.law_SchemaChecks l0 A0) (show RepsW W [argA true l0] [v0] from ⟨F0, trivial⟩)).mono fun e W' ⟨he, bel⟩ => ?_
  subst he
  exact ⟨_, rfl, _, _, _, [], _, [], hW', trodAll_mk1 (shut_bool Tryz.underlying4 _), (trodAll_cons_mk (Below.trod laidOut (by kernel_rfl) (of_decide_eq_true (by kernel_rfl)) k0 bel lt0) trodAll_mk0), rfl, bel.frame _, fun h => by cases h⟩
theorem over : Rows.schemaChecksRow.holds Tryz.pinned (OpenSpec.ofChange Rows.schemaChecksSpec) :=
  OpenClaim.holds_of_wide 3 Tryz.f3 rfl rfl rfl rfl rfl rfl rfl ⟨rfl, rfl, rfl, rfl, rfl⟩ rfl rfl rfl rfl rfl (by kernel_rfl) Tryz.func3 (by kernel_rfl)
    (of_decide_eq_true (by kernel_rfl)) (by unfold Func.isWrapper; first | (rw [if_pos (by decide +kernel)]; kernel_rfl) | (rw [if_neg (by decide +kernel)]; exact ⟨rfl, rfl⟩))
    (fun os started H enc _ => lifted os started H enc)
theorem proved : Rows.SchemaChecksSaid := over
#print axioms proved
end Go.Proofs.YtmhdapjmndfkgaaGreat.schemaChecks
namespace Go.Proofs.YtmhdapjmndfkgaaGreat
/-- The row, under a short name, for the claim. -/
theorem schemaChecks_holds : Rows.SchemaChecksSaid := schemaChecks.proved
end Go.Proofs.YtmhdapjmndfkgaaGreat
