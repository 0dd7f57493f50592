/- The reference: twice. -/
import Derived.Test.YtmhdapjmndfkgaaGreatDoorSpC
namespace Go.Proofs.YtmhdapjmndfkgaaGreatDoor.Sp.B
open Go Go.Proofs.YtmhdapjmndfkgaaGreatDoor.Eng Go.Proofs.YtmhdapjmndfkgaaGreatDoor.Eng.V
set_option linter.unusedSimpArgs false
set_option linter.unusedVariables false
open Sp
open Sp.W (lt2 riseP sl xi_at wrap_succ wrap_nat wrap_pred)
theorem d_rHas (l : List Int) (hw : l.length < 1000) (n : Int) : dd i_ref15_Has [.fsl (l.map eI), i64 n] = some (bl (hasI l n)) := by
  refine D_runE (V := v_ref15_Has) 1001 rfl rfl rfl ?_
  rw [s_ref15_Has]
  have h := loop_acc l (P := fun dn r m => R_ref15_Has_0 dd Prim.powG 1001 m [] (i64 n) (.fsl (l.map eI)) (i64 dn.length) = some (bl (hasI r n))) (by
    intro m
    rw [R_ref15_Has_0_s]
    simp [X, Y, Z]) (by
    intro dn x r m he hi hx ih
    rw [R_ref15_Has_0_s]
    rw [List.length_append] at ih
    push_cast at ih
    have hs := wrap_succ (show dn.length < 4611686018427387904 by omega)
    unfold hasI at ih ⊢
    rw [List.any_cons]
    by_cases hc : x = n
    · subst hc
      simp [X, Y, Z, hi, xi_at hx, eI, hs]
    · have hc' : ¬ n = x := fun h => hc h.symm
      simp [X, Y, Z, hi, xi_at hx, eI, hs, hc, hc']
      simpa using ih) 1001 (by omega)
  simp [X, Y, Z]
  exact h
theorem R_rbarred0 (s : Sch) (N m1 i : Nat) (e : Ms) (hx : s.Messages[i]? = some e) (h1 : s.Messages.length < 1000) (hv : e.Fields.length < 1000) (hb : e.Barred.length < 1000) (hN : e.Fields.length < N) : R_ref15_barred_0 dd Prim.powG N N m1 [so s] (i64 i) (.ptr (1, 0) 0) (i64 0) = if bar1 e = true then some (bl true) else R_ref15_barred_1 dd Prim.powG N m1 [so s] (i64 ((i : Int) + 1)) (.ptr (1, 0) 0) := by
  have hi' : i < 1000 := by have := (List.getElem?_eq_some_iff.1 hx).1; omega
  have hs' := wrap_succ (show i < 4611686018427387904 by omega)
  have h := loop_acc e.Fields (P := fun dn r m => R_ref15_barred_0 dd Prim.powG N m m1 [so s] (i64 i) (.ptr (1, 0) 0) (i64 dn.length) = if (r.any fun f => hasI e.Barred f.Num) = true then some (bl true) else R_ref15_barred_1 dd Prim.powG N m1 [so s] (i64 ((i : Int) + 1)) (.ptr (1, 0) 0)) (by
    intro m
    rw [R_ref15_barred_0_s]
    simp [X, Y, Z, xi_at hx, eM, k_ref15_barred_1, hs']) (by
    intro dn x r m he hi hy ih
    rw [R_ref15_barred_0_s]
    rw [List.length_append] at ih
    push_cast at ih
    have hs := wrap_succ (show dn.length < 4611686018427387904 by omega)
    have eh := d_rHas e.Barred hb x.Num
    rw [List.any_cons]
    cases hc : hasI e.Barred x.Num <;> rw [hc] at eh <;> simp [X, Y, Z, hi, xi_at hx, xi_at hy, eM, Fld.cells, k_ref15_barred_0, hs, eh]
    simpa using ih) N hN
  exact h
theorem d_rbarred (s : Sch) (ok : SchOk s) : dd i_ref15_barred [sch s] = some (bl (barF s)) := by
  refine D_runE (V := v_ref15_barred) 1001 rfl rfl rfl ?_
  rw [s_ref15_barred]
  have o2 := ok.messages
  have h := loop_acc s.Messages (P := fun dn r m => R_ref15_barred_1 dd Prim.powG 1001 m [so s] (i64 dn.length) (.ptr (1, 0) 0) = some (bl (r.any bar1))) (by
    intro m
    rw [R_ref15_barred_1_s]
    simp [X, Y, Z]) (by
    intro dn x r m he hi hx ih
    rw [R_ref15_barred_1_s]
    rw [List.length_append] at ih
    push_cast at ih
    have h0 := R_rbarred0 s 1001 m dn.length x hx o2 (ok.mf x (mem_at hx)) (ok.mb x (mem_at hx)) (by have := ok.mf x (mem_at hx); omega)
    simp [X, Y, Z, hi, k_ref15_barred_0]
    rw [h0]
    cases hc : bar1 x <;> simp
    simpa using ih) 1001 (by omega)
  simp [X, Y, Z, k_ref15_barred_1]
  exact h
theorem d_rMessage (s : Sch) (h2 : s.Messages.length < 1000) (w : ByteArray) : dd i_ref15_Message [sch s, st w] = some (i64 (fiF (fun m : Ms => decide (w = m.Name)) s.Messages 0)) := by
  refine D_runE (V := v_ref15_Message) 1001 rfl rfl rfl ?_
  rw [s_ref15_Message]
  have h := loop_acc s.Messages (P := fun dn r m => R_ref15_Message_0 dd Prim.powG 1001 m [((2, 0), .var [.fsl (s.Enums.map eE), .fsl (s.Messages.map eM)] false)] (i64 dn.length) (st w) (.ptr (2, 0) 0) = some (i64 (fiF (fun m : Ms => decide (w = m.Name)) r dn.length))) (by
    intro m
    rw [R_ref15_Message_0_s]
    simp [X, Y, Z, fiF]) (by
    intro dn x r m he hi hx ih
    rw [R_ref15_Message_0_s]
    rw [List.length_append] at ih
    push_cast at ih
    have hs := wrap_succ (show dn.length < 4611686018427387904 by omega)
    by_cases hc : x.Name = w
    · have hc' : w = x.Name := hc.symm
      simp [X, Y, Z, hi, xi_at hx, eM, hs, hc, fiF]
    · have hc' : ¬ w = x.Name := fun h => hc h.symm
      simp [X, Y, Z, hi, xi_at hx, eM, k_ref15_Message_0, hs, hc, hc', fiF]
      simpa using ih) 1001 (by omega)
  simp [X, Y, Z, k_ref15_Message_0]
  exact h
theorem d_rEnum (s : Sch) (h2 : s.Enums.length < 1000) (w : ByteArray) : dd i_ref15_Enum [sch s, st w] = some (i64 (fiF (fun m : En => decide (w = m.Name)) s.Enums 0)) := by
  refine D_runE (V := v_ref15_Enum) 1001 rfl rfl rfl ?_
  rw [s_ref15_Enum]
  have h := loop_acc s.Enums (P := fun dn r m => R_ref15_Enum_0 dd Prim.powG 1001 m [((2, 0), .var [.fsl (s.Enums.map eE), .fsl (s.Messages.map eM)] false)] (i64 dn.length) (st w) (.ptr (2, 0) 0) = some (i64 (fiF (fun m : En => decide (w = m.Name)) r dn.length))) (by
    intro m
    rw [R_ref15_Enum_0_s]
    simp [X, Y, Z, fiF]) (by
    intro dn x r m he hi hx ih
    rw [R_ref15_Enum_0_s]
    rw [List.length_append] at ih
    push_cast at ih
    have hs := wrap_succ (show dn.length < 4611686018427387904 by omega)
    by_cases hc : x.Name = w
    · have hc' : w = x.Name := hc.symm
      simp [X, Y, Z, hi, xi_at hx, eE, hs, hc, fiF]
    · have hc' : ¬ w = x.Name := fun h => hc h.symm
      simp [X, Y, Z, hi, xi_at hx, eE, k_ref15_Enum_0, hs, hc, hc', fiF]
      simpa using ih) 1001 (by omega)
  simp [X, Y, Z, k_ref15_Enum_0]
  exact h
def rlost2 (s : Sch) (f : Fld) : Bool := (decide (f.Ty = 14) && decide (fiF (fun m : En => decide (f.Ref = m.Name)) s.Enums 0 < 0)) || (decide (f.Ty = 15) && decide (fiF (fun m : Ms => decide (f.Ref = m.Name)) s.Messages 0 < 0))
theorem R_rrefs0 (s : Sch) (N m1 i : Nat) (e : Ms) (hx : s.Messages[i]? = some e) (h0 : s.Enums.length < 1000) (h1 : s.Messages.length < 1000) (hv : e.Fields.length < 1000) (hN : e.Fields.length < N) : R_ref15_refs_0 dd Prim.powG N N m1 [so s] (.ptr (1, 0) 0) (i64 i) (i64 0) = if e.Fields.any (rlost2 s) = true then some (bl true) else R_ref15_refs_1 dd Prim.powG N m1 [so s] (.ptr (1, 0) 0) (i64 ((i : Int) + 1)) := by
  have hi' : i < 1000 := by have := (List.getElem?_eq_some_iff.1 hx).1; omega
  have hs' := wrap_succ (show i < 4611686018427387904 by omega)
  have h := loop_acc e.Fields (P := fun dn r m => R_ref15_refs_0 dd Prim.powG N m m1 [so s] (.ptr (1, 0) 0) (i64 i) (i64 dn.length) = if r.any (rlost2 s) = true then some (bl true) else R_ref15_refs_1 dd Prim.powG N m1 [so s] (.ptr (1, 0) 0) (i64 ((i : Int) + 1))) (by
    intro m
    rw [R_ref15_refs_0_s]
    simp [X, Y, Z, xi_at hx, eM, k_ref15_refs_1, hs']) (by
    intro dn x r m he hi hy ih
    rw [R_ref15_refs_0_s]
    rw [List.length_append] at ih
    push_cast at ih
    have hs := wrap_succ (show dn.length < 4611686018427387904 by omega)
    have e1 := d_rEnum s h0 x.Ref
    have e2 := d_rMessage s h1 x.Ref
    rw [List.any_cons]
    have hr : rlost2 s x = ((decide (x.Ty = 14) && decide (fiF (fun m : En => decide (x.Ref = m.Name)) s.Enums 0 < 0)) || (decide (x.Ty = 15) && decide (fiF (fun m : Ms => decide (x.Ref = m.Name)) s.Messages 0 < 0))) := rfl
    rw [hr]
    generalize fiF (fun m : En => decide (x.Ref = m.Name)) s.Enums 0 = p1 at *
    generalize fiF (fun m : Ms => decide (x.Ref = m.Name)) s.Messages 0 = p2 at *
    cases q1 : decide (x.Ty = 14) <;> cases q2 : decide (x.Ty = 15) <;> cases q3 : decide (p1 < 0) <;> cases q4 : decide (p2 < 0) <;> simp [X, Y, Z, hi, xi_at hx, xi_at hy, eM, Fld.cells, k_ref15_refs_0, hs, e1, e2, q1, q2, q3, q4] <;> simpa using ih) N hN
  exact h
theorem d_rrefs (s : Sch) (ok : SchOk s) : dd i_ref15_refs [sch s] = some (bl (s.Messages.any fun m => m.Fields.any (rlost2 s))) := by
  refine D_runE (V := v_ref15_refs) 1001 rfl rfl rfl ?_
  rw [s_ref15_refs]
  have o2 := ok.messages
  have h := loop_acc s.Messages (P := fun dn r m => R_ref15_refs_1 dd Prim.powG 1001 m [so s] (.ptr (1, 0) 0) (i64 dn.length) = some (bl (r.any fun m => m.Fields.any (rlost2 s)))) (by
    intro m
    rw [R_ref15_refs_1_s]
    simp [X, Y, Z]) (by
    intro dn x r m he hi hx ih
    rw [R_ref15_refs_1_s]
    rw [List.length_append] at ih
    push_cast at ih
    have h0 := R_rrefs0 s 1001 m dn.length x hx ok.enums o2 (ok.mf x (mem_at hx)) (by have := ok.mf x (mem_at hx); omega)
    simp [X, Y, Z, hi, k_ref15_refs_0]
    rw [h0]
    cases hc : x.Fields.any (rlost2 s) <;> simp
    simpa using ih) 1001 (by omega)
  simp [X, Y, Z, k_ref15_refs_1]
  exact h
end Go.Proofs.YtmhdapjmndfkgaaGreatDoor.Sp.B
