/- The row of 'ecdysis/ecdysislaw14.FieldChecks', and its card: whatever the input, the call returns true and leaves what it was given. Conditions: the row's own (the tables of Go's library hold what their text lays, tied by the card). -/
import Derived.Test.YticmmpiffekbiaaDoorCards
import Derived.Test.YticmmpiffekbiaaDoorTie
import Derived.Test.YticmmpiffekbiaaDoorPx23
import Derived.Test.YticmmpiffekbiaaDoorPureFieldChecks
import Derived.WalkKit
import Derived.ProofKit
import Derived.OpenShut
import Derived.ShutString
import Derived.ChangeOld
import Derived.Below
import Derived.SizedLaws
import Derived.Deep.DeepHandedRow
import Derived.Lib.LaidTab
import Derived.Test.YticmmpiffekbiaaDoorOpen
namespace Go.Proofs.YticmmpiffekbiaaDoor.fieldChecks
open Go.ChangeShapes Go.WideShapes Go.ChangeAt Go.RowKit Go.Proofs.YticmmpiffekbiaaDoor.Px
open Go.ChangeMaps (open_string shut_string)
set_option linter.unusedVariables false
theorem own : ownKnob Tryd.prog.godebug = none := by kernel_rfl
theorem laidOut : laidOutB Tryd.prog = true := by kernel_rfl
set_option maxRecDepth 100000 in
theorem contract (H : Type) (enc : TypeId × Value → H) (W : World) (base : Nat) (args : Array Value) (ds gs : List (DataW H)) (before : List MemPlace)
    (hval : ∀ (j : Nat) t v, Tryd.f7.params[j]? = some t → args[j]? = some v → Value.okWide Tryd.prog W .any base t v)
    (hW : DataW.Whole enc Tryd.prog Tryd.f7.params.toList Rows.fieldChecksSpec.vars false W args.toList ds gs before) (hL : laidMetH Tryd.prog Rows.fieldChecksRow.laid W)
    (hsz : (DataW.weightsEach Tryd.prog (Tryd.f7.params.toList ++ Rows.fieldChecksSpec.plain.varTypes Tryd.prog) (ds ++ gs)).all (· ≤ reachBytes) = true) :
    Calls Tryd.prog 7 args W fun e W' => ∃ v, e = .returned v ∧ Rows.fieldChecksSpec.post enc Tryd.prog Tryd.f7 false true false false W args v W' := by
  have hW' := hW
  obtain ⟨p, q, hA0, hV, rfl, hfz, hnd⟩ := hW
  have hA : DataW.TrodAll enc Tryd.prog W 0 (fun _ => true) true Tryd.f7.params.toList args.toList ds p := hA0
  rw [Tryd.params7] at hA hval hsz
  obtain ⟨v0, vs0, d0, ds0, p0, q0, hargs, rfl, rfl, h0, r0⟩ := trodAll_cons hA
  obtain ⟨rfl, rfl, rfl⟩ := trodAll_nil r0
  obtain rfl : args = #[v0] := by cases args; simp_all
  obtain ⟨rfl, rfl⟩ := trodVars_none hV
  have k0 := h0
  have lt0 : ∀ x ∈ p0, x.block < W.heap.size := by obtain ⟨m, hm⟩ := k0; exact DataW.trod_lt m _ _ _ hm
  have sz0 : ∀ n ∈ d0.weights Tryd.prog 40, n ≤ 140737488351232 := fun n hn => of_decide_eq_true (List.all_eq_true.1 hsz n (weights_each (j := 0) (t := 40) (d := d0) rfl rfl n hn))
  obtain ⟨cs0, rfl, cz0⟩ := okWide_struct Tryd.underlying40 (hval 0 40 v0 rfl rfl)
  obtain ⟨fu0, hf0⟩ := h0
  have hg0 : DataW.trod enc Tryd.prog W 0 (fun _ => true) true fu0 40 cs0.toList = some (d0, p0) := by simpa [Value.cells] using hf0
  obtain ⟨hl0, hF0⟩ := trod_fields Tryd.underlying40 hg0 sz0
  rw [show Tryd.prog.cellsOf 40 = 7 from by kernel_rfl] at hl0
  obtain ⟨fu0_0, d0_0, p0_0, e0_0, z0_0⟩ : ∃ fuel' d' p', DataW.trod enc Tryd.prog W 0 (fun _ => true) true fuel' 9 ((cs0.toList.drop 0).take (Tryd.prog.cellsOf 9)) = some (d', p') ∧ ∀ n ∈ d'.weights Tryd.prog 9, n ≤ 140737488351232 := hF0 0 _ rfl
  obtain ⟨a0_0, x0_0, w0_0⟩ := opn_string Tryd.underlying9 _ _ _ _ _ _ _ _ e0_0 z0_0
  obtain ⟨fu0_1, d0_1, p0_1, e0_1, z0_1⟩ : ∃ fuel' d' p', DataW.trod enc Tryd.prog W 0 (fun _ => true) true fuel' 3 ((cs0.toList.drop 1).take (Tryd.prog.cellsOf 3)) = some (d', p') ∧ ∀ n ∈ d'.weights Tryd.prog 3, n ≤ 140737488351232 := hF0 1 _ rfl
  obtain ⟨a0_1, x0_1, w0_1⟩ := opn_int Tryd.underlying3 _ _ _ _ _ _ _ _ e0_1 z0_1
  obtain ⟨fu0_2, d0_2, p0_2, e0_2, z0_2⟩ : ∃ fuel' d' p', DataW.trod enc Tryd.prog W 0 (fun _ => true) true fuel' 3 ((cs0.toList.drop 2).take (Tryd.prog.cellsOf 3)) = some (d', p') ∧ ∀ n ∈ d'.weights Tryd.prog 3, n ≤ 140737488351232 := hF0 2 _ rfl
  obtain ⟨a0_2, x0_2, w0_2⟩ := opn_int Tryd.underlying3 _ _ _ _ _ _ _ _ e0_2 z0_2
  obtain ⟨fu0_3, d0_3, p0_3, e0_3, z0_3⟩ : ∃ fuel' d' p', DataW.trod enc Tryd.prog W 0 (fun _ => true) true fuel' 9 ((cs0.toList.drop 3).take (Tryd.prog.cellsOf 9)) = some (d', p') ∧ ∀ n ∈ d'.weights Tryd.prog 9, n ≤ 140737488351232 := hF0 3 _ rfl
  obtain ⟨a0_3, x0_3, w0_3⟩ := opn_string Tryd.underlying9 _ _ _ _ _ _ _ _ e0_3 z0_3
  obtain ⟨fu0_4, d0_4, p0_4, e0_4, z0_4⟩ : ∃ fuel' d' p', DataW.trod enc Tryd.prog W 0 (fun _ => true) true fuel' 4 ((cs0.toList.drop 4).take (Tryd.prog.cellsOf 4)) = some (d', p') ∧ ∀ n ∈ d'.weights Tryd.prog 4, n ≤ 140737488351232 := hF0 4 _ rfl
  obtain ⟨a0_4, x0_4, w0_4⟩ := opn_bool Tryd.underlying4 _ _ _ _ _ _ _ _ e0_4 z0_4
  obtain ⟨fu0_5, d0_5, p0_5, e0_5, z0_5⟩ : ∃ fuel' d' p', DataW.trod enc Tryd.prog W 0 (fun _ => true) true fuel' 4 ((cs0.toList.drop 5).take (Tryd.prog.cellsOf 4)) = some (d', p') ∧ ∀ n ∈ d'.weights Tryd.prog 4, n ≤ 140737488351232 := hF0 5 _ rfl
  obtain ⟨a0_5, x0_5, w0_5⟩ := opn_bool Tryd.underlying4 _ _ _ _ _ _ _ _ e0_5 z0_5
  obtain ⟨fu0_6, d0_6, p0_6, e0_6, z0_6⟩ : ∃ fuel' d' p', DataW.trod enc Tryd.prog W 0 (fun _ => true) true fuel' 9 ((cs0.toList.drop 6).take (Tryd.prog.cellsOf 9)) = some (d', p') ∧ ∀ n ∈ d'.weights Tryd.prog 9, n ≤ 140737488351232 := hF0 6 _ rfl
  obtain ⟨a0_6, x0_6, w0_6⟩ := opn_string Tryd.underlying9 _ _ _ _ _ _ _ _ e0_6 z0_6
  obtain ⟨l0⟩ := cs0
  obtain ⟨c0_0, c0_1, c0_2, c0_3, c0_4, c0_5, c0_6, rfl⟩ : ∃ c0_0 c0_1 c0_2 c0_3 c0_4 c0_5 c0_6, l0 = [c0_0, c0_1, c0_2, c0_3, c0_4, c0_5, c0_6] := by match l0, hl0 with | [c0_0, c0_1, c0_2, c0_3, c0_4, c0_5, c0_6], _ => exact ⟨c0_0, c0_1, c0_2, c0_3, c0_4, c0_5, c0_6, rfl⟩
  rw [show Tryd.prog.cellsOf 9 = 1 from by kernel_rfl] at x0_0
  replace x0_0 : [c0_0] = _ := x0_0
  obtain rfl := (List.cons.inj x0_0).1
  rw [show Tryd.prog.cellsOf 3 = 1 from by kernel_rfl] at x0_1
  replace x0_1 : [c0_1] = _ := x0_1
  obtain rfl := (List.cons.inj x0_1).1
  rw [show Tryd.prog.cellsOf 3 = 1 from by kernel_rfl] at x0_2
  replace x0_2 : [c0_2] = _ := x0_2
  obtain rfl := (List.cons.inj x0_2).1
  rw [show Tryd.prog.cellsOf 9 = 1 from by kernel_rfl] at x0_3
  replace x0_3 : [c0_3] = _ := x0_3
  obtain rfl := (List.cons.inj x0_3).1
  rw [show Tryd.prog.cellsOf 4 = 1 from by kernel_rfl] at x0_4
  replace x0_4 : [c0_4] = _ := x0_4
  obtain rfl := (List.cons.inj x0_4).1
  rw [show Tryd.prog.cellsOf 4 = 1 from by kernel_rfl] at x0_5
  replace x0_5 : [c0_5] = _ := x0_5
  obtain rfl := (List.cons.inj x0_5).1
  rw [show Tryd.prog.cellsOf 9 = 1 from by kernel_rfl] at x0_6
  replace x0_6 : [c0_6] = _ := x0_6
  obtain rfl := (List.cons.inj x0_6).1
  clear hA0
  obtain ⟨k, hk⟩ := Pure.FieldChecks a0_0 a0_1 a0_2 a0_3 a0_4 a0_5 a0_6 w0_0 w0_1 w0_2 w0_3 w0_6
  refine (Px.ecdysislaw14_FieldChecks.calls k a0_0 a0_1 a0_2 a0_3 a0_4 a0_5 a0_6 true W hk).mono fun e W' ⟨he, bel⟩ => ?_
  subst he
  exact ⟨_, rfl, _, _, _, [], _, [], hW', trodAll_mk1 (shut_bool Tryd.underlying4 _), (trodAll_cons_mk (Below.trod laidOut (by kernel_rfl) (of_decide_eq_true (by kernel_rfl)) k0 bel lt0) trodAll_mk0), rfl, bel.frame _, fun h => by cases h⟩
def tabCells0 : Array Value := #[.int .u8 0, .int .u8 1, .int .u8 28, .int .u8 2, .int .u8 29, .int .u8 14, .int .u8 24, .int .u8 3, .int .u8 30, .int .u8 22, .int .u8 20, .int .u8 15, .int .u8 25, .int .u8 17, .int .u8 4, .int .u8 8, .int .u8 31, .int .u8 27, .int .u8 13, .int .u8 23, .int .u8 21, .int .u8 19, .int .u8 16, .int .u8 7, .int .u8 26, .int .u8 12, .int .u8 18, .int .u8 6, .int .u8 11, .int .u8 5, .int .u8 10, .int .u8 9]
def tabCells1 : Array Value := #[.int .u8 0, .int .u8 1, .int .u8 56, .int .u8 2, .int .u8 57, .int .u8 49, .int .u8 28, .int .u8 3, .int .u8 61, .int .u8 58, .int .u8 42, .int .u8 50, .int .u8 38, .int .u8 29, .int .u8 17, .int .u8 4, .int .u8 62, .int .u8 47, .int .u8 59, .int .u8 36, .int .u8 45, .int .u8 43, .int .u8 51, .int .u8 22, .int .u8 53, .int .u8 39, .int .u8 33, .int .u8 30, .int .u8 24, .int .u8 18, .int .u8 12, .int .u8 5, .int .u8 63, .int .u8 55, .int .u8 48, .int .u8 27, .int .u8 60, .int .u8 41, .int .u8 37, .int .u8 16, .int .u8 46, .int .u8 35, .int .u8 44, .int .u8 21, .int .u8 52, .int .u8 32, .int .u8 23, .int .u8 11, .int .u8 54, .int .u8 26, .int .u8 40, .int .u8 15, .int .u8 34, .int .u8 20, .int .u8 31, .int .u8 10, .int .u8 25, .int .u8 14, .int .u8 19, .int .u8 9, .int .u8 13, .int .u8 8, .int .u8 7, .int .u8 6]
def tabCells2 : Array Value := #[.int .u64 1, .int .u64 10, .int .u64 100, .int .u64 1000, .int .u64 10000, .int .u64 100000, .int .u64 1000000, .int .u64 10000000, .int .u64 100000000, .int .u64 1000000000, .int .u64 10000000000, .int .u64 100000000000, .int .u64 1000000000000, .int .u64 10000000000000, .int .u64 100000000000000, .int .u64 1000000000000000, .int .u64 10000000000000000, .int .u64 100000000000000000, .int .u64 1000000000000000000, .int .u64 10000000000000000000]
noncomputable def laidWorld (os : Os) : World :=
  { World.holding Tryd.prog os ⟨#[], #[], []⟩ with heap := ((((World.holding Tryd.prog os ⟨#[], #[], []⟩).heap).modify 1 fun x => match x with | .cells _ t frozen => .cells tabCells0 t frozen | o => o).modify 2 fun x => match x with | .cells _ t frozen => .cells tabCells1 t frozen | o => o).modify 0 fun x => match x with | .cells _ t frozen => .cells tabCells2 t frozen | o => o }
theorem laid_met (os : Os) : laidMet Tryd.prog Rows.fieldChecksRow.laid ((laidWorld os).forCall (fun _ _ => 0) ⟨#[], #[.agg #[.string ByteArray.empty, .int .i64 0, .int .i64 0, .string ByteArray.empty, .bool false, .bool false, .string ByteArray.empty]], []⟩).memory :=
  laidMet_of_run' 8 (by kernel_rfl) (by kernel_rfl)
theorem reads (os : Os) {H : Type} (enc : TypeId × Value → H) : ∃ places, DataW.whole enc Tryd.prog ((laidWorld os).forCall (fun _ _ => 0) ⟨#[], #[.agg #[.string ByteArray.empty, .int .i64 0, .int .i64 0, .string ByteArray.empty, .bool false, .bool false, .string ByteArray.empty]], []⟩).memory Tryd.f7.params.toList Rows.fieldChecksSpec.vars false (#[.agg #[.string ByteArray.empty, .int .i64 0, .int .i64 0, .string ByteArray.empty, .bool false, .bool false, .string ByteArray.empty]] : Array Value).toList 8 = some ([.agg [.lit (.string []), .lit (.int .i64 0), .lit (.int .i64 0), .lit (.string []), .lit (.bool false), .lit (.bool false), .lit (.string [])]], [], places) :=
  ⟨[], by kernel_rfl⟩
set_option maxRecDepth 100000 in
theorem lifted (os : Os) (started : os.Started) (H : Type) (enc : TypeId × Value → H) (F : Stop.Interp) :
    ReturnsInHanded {} Tryd.checked os 7 .any ((OpenSpec.ofChange Rows.fieldChecksSpec).preRow enc Tryd.prog Tryd.f7 Rows.fieldChecksRow.domain false Rows.fieldChecksRow.laid) (((OpenSpec.ofChange Rows.fieldChecksSpec).at F).post enc Tryd.prog Tryd.f7 false true false false) := by
  obtain ⟨places, hx⟩ := reads os enc
  refine returnsInHanded_of_row (C := Tryd.checked) (s := OpenSpec.ofChange Rows.fieldChecksSpec) own started (by kernel_rfl) Tryd.func7
    (witness_row_at (enc := enc) (C := Tryd.checked) false (laidWorld os) #[.agg #[.string ByteArray.empty, .int .i64 0, .int .i64 0, .string ByteArray.empty, .bool false, .bool false, .string ByteArray.empty]] rfl (by kernel_rfl) (by kernel_rfl) (by kernel_rfl)
      (OpenSpec.preRow_of_cond 8 hx (by kernel_rfl) (fun k hk => by cases hk) (by kernel_rfl) (laid_met os))) ?_
  intro W base args ds gs before hval hW _ _ hsz hL _ _
  exact contract H enc W base args ds gs before hval hW hL hsz
theorem said : Rows.FieldChecksSaid :=
  OpenClaim.holds_of_cond 7 Tryd.f7 rfl rfl rfl rfl rfl rfl rfl ⟨rfl, rfl, rfl, rfl, rfl⟩ rfl rfl rfl rfl rfl (by kernel_rfl) Tryd.func7 (by kernel_rfl)
    (of_decide_eq_true (by kernel_rfl)) (by unfold Func.isWrapper; first | (rw [if_pos (by decide +kernel)]; kernel_rfl) | (rw [if_neg (by decide +kernel)]; exact ⟨rfl, rfl⟩))
    (fun os started H enc _ F => by rw [OpenClaim.pre_eq_preRow]; exact lifted os started H enc F)
theorem plain (f : FuncId) (fn : Func) (hf : Tryd.pinned.checked.prog.funcNamed "ecdysis/ecdysislaw14.FieldChecks" = some f) (hfn : Tryd.pinned.checked.prog.funcs[f]? = some fn) :
    false = Tryd.pinned.checked.prog.looks [] ∧ ∀ (j : Nat) t, fn.params[j]? = some t → Tryd.pinned.checked.prog.wantsStandIn t = false := by
  obtain rfl : f = 7 := Option.some.inj ((show Tryd.prog.funcNamed "ecdysis/ecdysislaw14.FieldChecks" = some 7 by kernel_rfl).symm.trans hf) |>.symm
  obtain rfl : fn = Tryd.f7 := (Option.some.inj (Tryd.func7.symm.trans hfn)).symm
  refine ⟨by kernel_rfl, fun j t ht => ?_⟩
  rw [Tryd.params7] at ht
  have hm := Array.mem_of_getElem? ht
  have hall : (#[40] : Array Nat).all (fun t => Tryd.prog.wantsStandIn t == false) = true := by kernel_rfl
  exact beq_iff_eq.mp (Array.all_eq_true_iff_forall_mem.1 hall t hm)
theorem card : Rows.FieldChecksCardSaid :=
  Claim7.holds_tied_plain_at .later [] _ _ _ _ said (fun _ h => by cases h) (by kernel_rfl) (fun _ h => by cases h) fieldChecks_row_tie rfl ⟨rfl, rfl⟩ (by kernel_rfl) rfl plain (by kernel_rfl)
#print axioms card
end Go.Proofs.YticmmpiffekbiaaDoor.fieldChecks
namespace Go.Proofs.YticmmpiffekbiaaDoor
/-- The card, under a short name, for the claim. -/
theorem fieldChecks_card : Rows.FieldChecksCardSaid := fieldChecks.card
end Go.Proofs.YticmmpiffekbiaaDoor
