/- The row of 'ecdysis/ecdysislaw09.IdentOrder': whatever the input, the call returns true and leaves what it was given. Conditions: none but the row's own. -/
import Derived.Test.YticmmpiffekbiaaRows
import Derived.Test.YticmmpiffekbiaaIlA
import Derived.Test.YticmmpiffekbiaaEng5
import Derived.WalkKit
import Derived.ProofKit
import Derived.OpenShut
import Derived.ShutString
import Derived.ChangeOld
import Derived.Below
import Derived.Carry
import Derived.SizedLaws
namespace Go.Proofs.Yticmmpiffekbiaa.identOrder
open Go.ChangeShapes Go.WideShapes Go.ChangeAt Go.RowKit Go.Proofs.Yticmmpiffekbiaa.Eng
set_option linter.unusedVariables false
theorem own : ownKnob Try.prog.godebug = none := by kernel_rfl
theorem laidOut : laidOutB Try.prog = true := by kernel_rfl
theorem tsOk : ([22, 9] : List TypeId).all (layB Try.prog [22, 9]) = true := by kernel_rfl
set_option maxRecDepth 100000 in
theorem lifted (os : Os) (started : os.Started) (H : Type) (enc : TypeId × Value → H) :
    ReturnsInHanded {} Try.checked os 4 .any (Rows.identOrderSpec.pre6 enc Try.prog Try.f4 Rows.identOrderRow.domain false) (Rows.identOrderSpec.post enc Try.prog Try.f4 false true false false) := by
  refine returnsInHanded_of_change_sized (C := Try.checked) own started (by kernel_rfl) Try.func4
    (ChangeSpec.witness6 (enc := enc) (C := Try.checked) false ⟨#[], #[.slice none 0 0, .slice none 0 0], []⟩ 8 (by kernel_rfl) (by kernel_rfl) (by kernel_rfl) (by kernel_rfl)) ?_
  intro W base args ds gs before hval0 hW hcnd hsz0 _
  have hsz : (DataW.weightsEach Try.prog (Try.f4.params.toList ++ Rows.identOrderSpec.plain.varTypes Try.prog) (ds ++ gs)).all (· ≤ reachBytes) = true := hsz0
  have hval : ∀ (j : Nat) t v, Try.f4.params[j]? = some t → args[j]? = some v → Value.okWide Try.prog W .any base t v := hval0
  have hW' := hW
  obtain ⟨p, q, hA0, hV, rfl, hfz, hnd⟩ := hW
  have hA : DataW.TrodAll enc Try.prog W 0 (fun _ => true) true Try.f4.params.toList args.toList ds p := hA0
  rw [Try.params4] at hA hval hsz
  obtain ⟨v0, vs0, d0, ds0, p0, q0, hargs, rfl, rfl, h0, r0⟩ := trodAll_cons hA
  obtain ⟨v1, vs1, d1, ds1, p1, q1, rfl, rfl, rfl, h1, r1⟩ := trodAll_cons r0
  obtain ⟨rfl, rfl, rfl⟩ := trodAll_nil r1
  obtain rfl : args = #[v0, v1] := by cases args; simp_all
  obtain ⟨rfl, rfl⟩ := trodVars_none hV
  have k0 := h0
  have lt0 : ∀ x ∈ p0, x.block < W.heap.size := by obtain ⟨m, hm⟩ := k0; exact DataW.trod_lt m _ _ _ hm
  have sz0 : ∀ n ∈ d0.weights Try.prog 22, n ≤ 140737488351232 := fun n hn => of_decide_eq_true (List.all_eq_true.1 hsz n (weights_at (j := 0) (t := 22) (d := d0) rfl rfl n hn))
  obtain ⟨l0, A0, F0⟩ := arg_open tsOk (t := 22) (ag := false) (by kernel_rfl) (by kernel_rfl) (hval 0 22 v0 rfl rfl) h0 sz0
  have k1 := h1
  have lt1 : ∀ x ∈ p1, x.block < W.heap.size := by obtain ⟨m, hm⟩ := k1; exact DataW.trod_lt m _ _ _ hm
  have sz1 : ∀ n ∈ d1.weights Try.prog 22, n ≤ 140737488351232 := fun n hn => of_decide_eq_true (List.all_eq_true.1 hsz n (weights_at (j := 1) (t := 22) (d := d1) rfl rfl n hn))
  obtain ⟨l1, A1, F1⟩ := arg_open tsOk (t := 22) (ag := false) (by kernel_rfl) (by kernel_rfl) (hval 1 22 v1 rfl rfl) h1 sz1
  clear hA0 hval0 hsz0 hsz
  refine (law_calls' Il.mixed Il.defsOk (Prim.primsOOk noPrims) ⟨fun _ => .inl rfl, fun _ _ h => by cases h⟩ (f := 4) (args := [argA false l0, argA false l1]) (vargs := #[v0, v1]) (Il.law_IdentOrder l0 l1 A0 A1) (show RepsW W [argA false l0, argA false l1] [v0, v1] from ⟨F0, F1, trivial⟩)).mono fun e W' ⟨he, bel⟩ => ?_
  subst he
  exact ⟨_, rfl, _, _, _, [], _, [], hW', trodAll_mk1 (shut_bool Try.underlying4 _), (trodAll_cons_mk (Below.trod laidOut (by kernel_rfl) (of_decide_eq_true (by kernel_rfl)) k0 bel lt0) (trodAll_cons_mk (Below.trod laidOut (by kernel_rfl) (of_decide_eq_true (by kernel_rfl)) k1 bel lt1) trodAll_mk0)), rfl, bel.frame _, fun h => by cases h⟩
theorem over : Rows.identOrderRow.holds Try.pinned (OpenSpec.ofChange Rows.identOrderSpec) :=
  OpenClaim.holds_of_wide 4 Try.f4 rfl rfl rfl rfl rfl rfl rfl ⟨rfl, rfl, rfl, rfl, rfl⟩ rfl rfl rfl rfl rfl (by kernel_rfl) Try.func4 (by kernel_rfl)
    (of_decide_eq_true (by kernel_rfl)) (by unfold Func.isWrapper; first | (rw [if_pos (by decide +kernel)]; kernel_rfl) | (rw [if_neg (by decide +kernel)]; exact ⟨rfl, rfl⟩))
    (fun os started H enc _ => lifted os started H enc)
theorem proved : Rows.IdentOrderSaid := over
#print axioms proved
end Go.Proofs.Yticmmpiffekbiaa.identOrder
namespace Go.Proofs.Yticmmpiffekbiaa
/-- The row, under a short name, for the claim. -/
theorem identOrder_holds : Rows.IdentOrderSaid := identOrder.proved
end Go.Proofs.Yticmmpiffekbiaa
