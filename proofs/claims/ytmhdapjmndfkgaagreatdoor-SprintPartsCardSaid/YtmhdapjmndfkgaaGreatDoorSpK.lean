/- The reference's texts. -/
import Derived.Test.YtmhdapjmndfkgaaGreatDoorSpJ
namespace Go.Proofs.YtmhdapjmndfkgaaGreatDoor.Sp.B
open Go Go.Proofs.YtmhdapjmndfkgaaGreatDoor.Eng Go.Proofs.YtmhdapjmndfkgaaGreatDoor.Eng.V
set_option linter.unusedSimpArgs false
set_option linter.unusedVariables false
open Sp
open Sp.W (lt2 riseP sl xi_at wrap_succ wrap_nat wrap_pred)
def dJ (l : List Int) : List UInt8 := Lib.join (l.map fun n => (dgt n).data.toList) tComma.data.toList
theorem joinB_dJ (l : List Int) : Prim.joinB (l.map dgt) tComma = bsL (dJ l) := by
  unfold Prim.joinB dJ
  rw [List.map_map]
  rfl
theorem dJ_snoc (l : List Int) (n : Int) : dJ (l ++ [n]) = dJ l ++ (if l = [] then [] else tComma.data.toList) ++ (dgt n).data.toList := by
  unfold dJ
  cases l with
  | nil => simp [Lib.join_one, Lib.join_nil]
  | cons x r =>
    simp only [List.cons_append, List.map_cons, Lib.join_cons]
    simp [Lib.joinTail, List.append_assoc]
theorem dJ_len (l : List Int) : (dJ l).length ≤ 22 * l.length := by
  have key : ∀ (n : Nat) (l : List Int), l.length = n → (dJ l).length ≤ 22 * n := by
    intro n
    induction n with
    | zero => intro l h; rw [List.length_eq_zero_iff.1 h]; simp [dJ, Lib.join_nil]
    | succ k ih =>
      intro l h
      have hl : l ≠ [] := by intro e; rw [e] at h; simp at h
      obtain ⟨l', n, rfl⟩ : ∃ l' n, l = l' ++ [n] := ⟨l.dropLast, l.getLast hl, (List.dropLast_concat_getLast hl).symm⟩
      rw [List.length_append, List.length_cons, List.length_nil] at h
      have h0 := ih l' (by omega)
      rw [dJ_snoc, List.length_append, List.length_append]
      have h1 := dgt_size n
      have h2 : (dgt n).data.toList.length = (dgt n).size := rfl
      have h3 : (if l' = [] then [] else tComma.data.toList).length ≤ 2 := by split <;> decide
      omega
  exact key l.length l rfl
theorem barL_len (l : List Int) (h : l.length < 1000) : (barL l).length ≤ 23000 := by
  unfold barL
  split
  · simp
  · rw [lnF_len, joinB_dJ]
    have := dJ_len l
    simp only [List.map_cons, List.map_nil, List.sum_cons, List.sum_nil, bsL_size]
    have : tInd.size = 2 := rfl
    have : tRes.size = 9 := rfl
    have : tSemi.size = 1 := rfl
    omega
theorem textB_size (f : Fld) (t : ByteArray) : (textB f t).size ≤ t.size + f.Name.size + 100 := by
  have h1 := ahead_size f
  have hw := wrap_u f.Num
  have h2 : (digF (IntKind.u64.wrap f.Num) false).size ≤ 20 := by
    have := digU_size (IntKind.u64.wrap f.Num).toNat (by omega)
    simpa [digF] using this
  have : (⟨#[32]⟩ : ByteArray).size = 1 := rfl
  have : (⟨#[32, 61, 32]⟩ : ByteArray).size = 3 := rfl
  have : (⟨#[59]⟩ : ByteArray).size = 1 := rfl
  unfold textB
  simp only [ByteArray.size_append]
  omega
theorem textF_size (f : Fld) (h : f.Name.size ≤ 1000 ∧ f.Ref.size ≤ 1000) : (textF f).size ≤ 2200 := by
  unfold textF
  have h0 := wordT_size f.Ty
  have h1 := textB_size f f.Ref
  have h2 := textB_size f (wordT f.Ty)
  split
  · cases decide (f.Ref = noS)
    · show (textB f f.Ref).size ≤ _; omega
    · show (textB f (wordT f.Ty)).size ≤ _; omega
  · decide
theorem oneB_size (f : Fld) (h : f.One.size ≤ 1000) : (oneB f).size ≤ 1010 := by
  unfold oneB
  have : tOne.size = 6 := rfl
  have : (⟨#[32]⟩ : ByteArray).size = 1 := rfl
  have : noS.size = 0 := rfl
  cases decide (f.One = noS)
  · simp only [cond_false, ByteArray.size_append]; omega
  · simp only [cond_true]; omega
theorem fldL_len (f : Fld) (h : f.Name.size ≤ 1000 ∧ f.Ref.size ≤ 1000 ∧ f.One.size ≤ 1000) : (fldL f).length ≤ 3300 := by
  have h1 := textF_size f ⟨h.1, h.2.1⟩
  have h2 := oneB_size f h.2.2
  unfold fldL
  rw [lnF_len]
  simp only [List.map_cons, List.map_nil, List.sum_cons, List.sum_nil]
  have : tInd.size = 2 := rfl
  omega
theorem msgL_len (m : Ms) (h : MsOk m) : (msgL m).length ≤ 3400000 := by
  have h1 := flat_len fldL 3300 m.Fields fun f hf => fldL_len f (h.fd f hf)
  have h2 := h.fl
  have h3 := h.nm
  have h4 := barL_len m.Barred h.bl
  unfold msgL
  rw [List.length_append, List.length_append, List.length_append, lnF_len, lnF_len]
  simp only [List.map_cons, List.map_nil, List.sum_cons, List.sum_nil]
  have : tMsg.size = 8 := rfl
  have : tOpen.size = 2 := rfl
  have : tClose.size = 1 := rfl
  omega
abbrev mO (m : Ms) : Objs := [((1, 0), .var (eM m) false)]
theorem jM1 (m : Ms) (f : Fld) (i : Nat) (hi : i < m.Fields.length) (hx : m.Fields[i]? = some f) (hb : f.Name.size ≤ 1000 ∧ f.Ref.size ≤ 1000) (hw : m.Fields.length < 1000) (N k : Nat) (l : List UInt8) (hl : l.length ≤ 4000000) :
    J_ref17_Message_1 dd Prim.powG N k (mO m) (.ptr (1, 0) 0) (st (bsL l)) (i64 i) = R_ref17_Message_1 dd Prim.powG N k (mO m) (.ptr (1, 0) 0) (i64 (i + 1)) (st (bsL (l ++ (textF f).data.toList ++ [10]))) := by
  have ht := textF_size f hb
  have z0 := bsL_size l
  have z1 : (⟨#[10]⟩ : ByteArray).size = 1 := rfl
  have e1 : (bsL l).size + (textF f).size ≤ 9223372036854775807 := by omega
  have e2 : (bsL l).size + (textF f).size + (⟨#[10]⟩ : ByteArray).size ≤ 9223372036854775807 := by omega
  have e3 : bsL l ++ textF f ++ ⟨#[10]⟩ = bsL (l ++ (textF f).data.toList ++ [10]) := by simp only [bsL_app]
  have hd := d_rText f (by omega) (by omega)
  rw [← text_eq] at hd
  simp [J_ref17_Message_1, X, Y, Z, hi, xi_at hx, hd, e1, e2, e3, k_ref17_Message_1, wrap_succ (show i < 4611686018427387904 by omega)]
theorem rM_loop1 (m : Ms) (ok : MsOk m) (N : Nat) (k : Nat) (hm : m.Fields.length < k) (l0 : List UInt8) (hl0 : l0 = lnF [tMsg, m.Name, tOpen] ++ barL m.Barred) : R_ref17_Message_1 dd Prim.powG N k (mO m) (.ptr (1, 0) 0) (i64 0) (st (bsL l0)) = some (st (bsL (msgL m))) := by
  have h := loop_acc m.Fields (P := fun dn r k => ∀ l, l = l0 ++ dn.flatMap fldL → R_ref17_Message_1 dd Prim.powG N k (mO m) (.ptr (1, 0) 0) (i64 dn.length) (st (bsL l)) = some (st (bsL (msgL m)))) (by
    intro k l hl
    have hlen := msgL_len m ok
    have e0 : msgL m = l ++ lnF [tClose] := by rw [hl, hl0, msgL]
    have e1 : (bsL l).size + (⟨#[125, 10]⟩ : ByteArray).size ≤ 9223372036854775807 := by
      have : (⟨#[125, 10]⟩ : ByteArray).size = 2 := rfl
      rw [bsL_size]
      rw [e0, List.length_append] at hlen
      omega
    have e2 : bsL l ++ ⟨#[125, 10]⟩ = bsL (msgL m) := by rw [bsL_app, e0]; rfl
    rw [R_ref17_Message_1_s]
    simp [X, Y, Z, e1, e2]) (by
    intro dn f r k he hi hx ih l hl
    have hlen := msgL_len m ok
    have hv := ok.fd f (mem_at hx)
    have e0 : msgL m = l ++ (fldL f ++ (r.flatMap fldL ++ lnF [tClose])) := by rw [hl, hl0, msgL, he]; simp [List.flatMap_append, List.append_assoc]
    have hll : l.length ≤ 3400000 := by rw [e0, List.length_append] at hlen; omega
    have ih := ih (l ++ fldL f) (by rw [hl]; simp [List.flatMap_append, List.append_assoc])
    rw [List.length_append, List.length_cons, List.length_nil] at ih
    push_cast at ih
    have hvl := ok.fl
    have z0 := bsL_size l
    have z1 : (⟨#[32, 32]⟩ : ByteArray).size = 2 := rfl
    have z2 : (⟨#[111, 110, 101, 111, 102, 32]⟩ : ByteArray).size = 6 := rfl
    have z3 : (⟨#[32]⟩ : ByteArray).size = 1 := rfl
    have e1 : (bsL l).size + (⟨#[32, 32]⟩ : ByteArray).size ≤ 9223372036854775807 := by omega
    have e2 : (bsL l).size + (⟨#[32, 32]⟩ : ByteArray).size + (⟨#[111, 110, 101, 111, 102, 32]⟩ : ByteArray).size ≤ 9223372036854775807 := by omega
    have e3 : (bsL l).size + (⟨#[32, 32]⟩ : ByteArray).size + (⟨#[111, 110, 101, 111, 102, 32]⟩ : ByteArray).size + f.One.size ≤ 9223372036854775807 := by omega
    have e4 : (bsL l).size + (⟨#[32, 32]⟩ : ByteArray).size + (⟨#[111, 110, 101, 111, 102, 32]⟩ : ByteArray).size + f.One.size + (⟨#[32]⟩ : ByteArray).size ≤ 9223372036854775807 := by omega
    have e5 : bsL l ++ ⟨#[32, 32]⟩ = bsL (l ++ [32, 32]) := by simp only [bsL_app]
    have e6 : bsL l ++ ⟨#[32, 32]⟩ ++ ⟨#[111, 110, 101, 111, 102, 32]⟩ ++ f.One ++ ⟨#[32]⟩ = bsL (l ++ [32, 32] ++ [111, 110, 101, 111, 102, 32] ++ f.One.data.toList ++ [32]) := by simp only [bsL_app]
    have j1 := jM1 m f dn.length hi hx ⟨hv.1, hv.2.1⟩ hvl N k (l ++ [32, 32]) (by rw [List.length_append]; simp; omega)
    have j2 := jM1 m f dn.length hi hx ⟨hv.1, hv.2.1⟩ hvl N k (l ++ [32, 32] ++ [111, 110, 101, 111, 102, 32] ++ f.One.data.toList ++ [32]) (by
      have : f.One.data.toList.length = f.One.size := rfl
      simp only [List.length_append, List.length_cons, List.length_nil]
      omega)
    rw [R_ref17_Message_1_s]
    cases h1 : decide (f.One = noS)
    · have e7 : l ++ [32, 32] ++ [111, 110, 101, 111, 102, 32] ++ f.One.data.toList ++ [32] ++ (textF f).data.toList ++ [10] = l ++ fldL f := by
        unfold fldL oneB
        rw [h1]
        simp [lnF, cat, tInd, tOne, List.append_assoc]
      rw [e7] at j2
      generalize l ++ [32, 32] ++ [111, 110, 101, 111, 102, 32] ++ f.One.data.toList ++ [32] = l2 at e6 j2
      simp [X, Y, Z, hi, xi_at hx, h1, e1, e2, e3, e4, e6, j2]
      exact ih
    · have e7 : l ++ [32, 32] ++ (textF f).data.toList ++ [10] = l ++ fldL f := by
        unfold fldL oneB
        rw [h1]
        simp [lnF, cat, tInd, List.append_assoc]
      rw [e7] at j1
      generalize l ++ [32, 32] = l2 at e5 j1
      simp [X, Y, Z, hi, xi_at hx, h1, e1, e5, j1]
      exact ih) k hm
  exact h _ (by simp)
theorem rM_loop0 (m : Ms) (ok : MsOk m) (hb : m.Barred ≠ []) (N : Nat) (hN : m.Fields.length < N) (k : Nat) (hm : m.Barred.length < k) (l0 : List UInt8) (hl0 : l0 = lnF [tMsg, m.Name, tOpen] ++ tInd.data.toList ++ tRes.data.toList) : R_ref17_Message_0 dd Prim.powG N k (mO m) (.ptr (1, 0) 0) (i64 0) (st (bsL l0)) = some (st (bsL (msgL m))) := by
  have hz : l0.length ≤ 3000 := by
    rw [hl0, List.length_append, List.length_append, lnF_len]
    have := ok.nm
    simp only [List.map_cons, List.map_nil, List.sum_cons, List.sum_nil]
    have : tMsg.size = 8 := rfl
    have : tOpen.size = 2 := rfl
    have t1 : tInd.data.toList.length = 2 := rfl
    have t2 : tRes.data.toList.length = 9 := rfl
    rw [t1, t2]
    omega
  have h := loop_acc m.Barred (P := fun dn r k => ∀ l, l = l0 ++ dJ dn → R_ref17_Message_0 dd Prim.powG N k (mO m) (.ptr (1, 0) 0) (i64 dn.length) (st (bsL l)) = some (st (bsL (msgL m)))) (by
    intro k l hl
    have hl1 := dJ_len m.Barred
    have hbl := ok.bl
    have e0 : lnF [tMsg, m.Name, tOpen] ++ barL m.Barred = l ++ [59, 10] := by
      rw [hl, hl0]
      unfold barL
      rw [if_neg hb, joinB_dJ]
      simp [lnF, cat, bsL_data, tSemi, List.append_assoc]
    have e1 : (bsL l).size + (⟨#[59, 10]⟩ : ByteArray).size ≤ 9223372036854775807 := by
      have : (⟨#[59, 10]⟩ : ByteArray).size = 2 := rfl
      rw [bsL_size, hl, List.length_append]
      omega
    have e2 : bsL l ++ ⟨#[59, 10]⟩ = bsL (l ++ [59, 10]) := by rw [bsL_app]
    have h2 := rM_loop1 m ok N N hN (l ++ [59, 10]) e0.symm
    rw [R_ref17_Message_0_s]
    simp [X, Y, Z, e1, e2, k_ref17_Message_1]
    exact h2) (by
    intro dn n r k he hi hx ih l hl
    have hl1 := dJ_len dn
    have hbl := ok.bl
    have hd := dgt_size n
    have ih := ih (l ++ (if dn = [] then [] else tComma.data.toList) ++ (dgt n).data.toList) (by rw [dJ_snoc, hl]; simp only [List.append_assoc])
    rw [List.length_append, List.length_cons, List.length_nil] at ih
    push_cast at ih
    have hll : l.length ≤ 30000 := by rw [hl, List.length_append]; omega
    have z0 := bsL_size l
    have z1 : (⟨#[44, 32]⟩ : ByteArray).size = 2 := rfl
    rw [R_ref17_Message_0_s]
    by_cases hdn : dn = []
    · rw [if_pos hdn, List.append_nil] at ih
      have hL0 : ¬ (0 < dn.length) := by rw [hdn]; simp
      have e1 : (bsL l).size + (dgt n).size ≤ 9223372036854775807 := by omega
      have e2 : bsL l ++ dgt n = bsL (l ++ (dgt n).data.toList) := by rw [bsL_app]
      generalize l ++ (dgt n).data.toList = l2 at ih e2
      generalize dn.length = L at hi hx ih hL0 ⊢
      simp [X, Y, Z, hi, xi_at hx, d_rDigits, e1, e2, hL0, J_ref17_Message_0, k_ref17_Message_0, wrap_succ (show L < 4611686018427387904 by omega)]
      exact ih
    · rw [if_neg hdn] at ih
      have hL0 : 0 < dn.length := List.length_pos_iff.2 hdn
      have e1 : (bsL l).size + (⟨#[44, 32]⟩ : ByteArray).size ≤ 9223372036854775807 := by omega
      have e2 : (bsL l).size + (⟨#[44, 32]⟩ : ByteArray).size + (dgt n).size ≤ 9223372036854775807 := by omega
      have e3 : bsL l ++ ⟨#[44, 32]⟩ ++ dgt n = bsL (l ++ tComma.data.toList ++ (dgt n).data.toList) := by simp only [bsL_app]
      generalize l ++ tComma.data.toList ++ (dgt n).data.toList = l2 at ih e3
      generalize dn.length = L at hi hx ih hL0 ⊢
      simp [X, Y, Z, hi, xi_at hx, d_rDigits, e1, e2, e3, hL0, J_ref17_Message_0, k_ref17_Message_0, wrap_succ (show L < 4611686018427387904 by omega)]
      exact ih) k hm
  exact h l0 (by simp [dJ, Lib.join_nil])
theorem d_rMsgT (m : Ms) (ok : MsOk m) : dd i_ref17_Message [aM m] = some (st (bsL (msgL m))) := by
  refine D_runE (V := v_ref17_Message) 1000 rfl rfl rfl ?_
  rw [s_ref17_Message]
  have hn := ok.nm
  have z1 : (⟨#[109, 101, 115, 115, 97, 103, 101, 32]⟩ : ByteArray).size = 8 := rfl
  have z2 : (⟨#[32, 123, 10]⟩ : ByteArray).size = 3 := rfl
  have z3 : (⟨#[32, 32, 114, 101, 115, 101, 114, 118, 101, 100, 32]⟩ : ByteArray).size = 11 := rfl
  have e1 : (⟨#[109, 101, 115, 115, 97, 103, 101, 32]⟩ : ByteArray).size + m.Name.size ≤ 9223372036854775807 := by omega
  have e2 : (⟨#[109, 101, 115, 115, 97, 103, 101, 32]⟩ : ByteArray).size + m.Name.size + (⟨#[32, 123, 10]⟩ : ByteArray).size ≤ 9223372036854775807 := by omega
  have e3 : (⟨#[109, 101, 115, 115, 97, 103, 101, 32]⟩ : ByteArray) ++ m.Name ++ ⟨#[32, 123, 10]⟩ = bsL (lnF [tMsg, m.Name, tOpen]) := by
    show bsL [109, 101, 115, 115, 97, 103, 101, 32] ++ m.Name ++ ⟨#[32, 123, 10]⟩ = _
    simp only [bsL_app]
    refine congrArg bsL ?_
    simp [lnF, cat]
  have e4 : (bsL (lnF [tMsg, m.Name, tOpen])).size + (⟨#[32, 32, 114, 101, 115, 101, 114, 118, 101, 100, 32]⟩ : ByteArray).size ≤ 9223372036854775807 := by
    rw [bsL_size, lnF_len]
    have : tMsg.size = 8 := rfl
    have : tOpen.size = 2 := rfl
    simp only [List.map_cons, List.map_nil, List.sum_cons, List.sum_nil]
    omega
  have e5 : bsL (lnF [tMsg, m.Name, tOpen]) ++ ⟨#[32, 32, 114, 101, 115, 101, 114, 118, 101, 100, 32]⟩ = bsL (lnF [tMsg, m.Name, tOpen] ++ tInd.data.toList ++ tRes.data.toList) := (bsL_app _ _).trans (congrArg bsL (by
    rw [List.append_assoc]
    exact congrArg (lnF [tMsg, m.Name, tOpen] ++ ·) rfl))
  by_cases hb : m.Barred = []
  · have h := rM_loop1 m ok 1000 1000 (by have := ok.fl; omega) (lnF [tMsg, m.Name, tOpen]) (by rw [barL, if_pos hb, List.append_nil])
    simp [X, Y, Z, e1, e2, e3, hb, k_ref17_Message_1]
    simp only [mO, eM, hb, List.map_nil] at h
    exact h
  · obtain ⟨l0, hl0⟩ : ∃ l0, l0 = lnF [tMsg, m.Name, tOpen] ++ tInd.data.toList ++ tRes.data.toList := ⟨_, rfl⟩
    have h := rM_loop0 m ok hb 1000 (by have := ok.fl; omega) 1000 (by have := ok.bl; omega) l0 hl0
    rw [← hl0] at e5
    have hb0 : 0 < m.Barred.length := List.length_pos_iff.2 hb
    simp [X, Y, Z, e1, e2, e3, hb0, k_ref17_Message_0, e4, e5]
    exact h
def textL (s : Sch) : List UInt8 := s.Enums.flatMap enumL ++ s.Messages.flatMap msgL
def textS (s : Sch) : ByteArray := if rCheckF s = 0 then bsL (textL s) else noS
structure SchTx (s : Sch) : Prop where
  ok : SchOk s
  en : ∀ e ∈ s.Enums, EnOk e
  ms : ∀ m ∈ s.Messages, MsOk m
theorem SchTx.len {s : Sch} (h : SchTx s) : (textL s).length ≤ 5000000000 := by
  have h1 := flat_len enumL 1200000 s.Enums fun e he => enumL_len e (h.en e he)
  have h2 := flat_len msgL 3400000 s.Messages fun m hm => msgL_len m (h.ms m hm)
  have h3 := h.ok.enums
  have h4 := h.ok.messages
  unfold textL
  rw [List.length_append]
  omega
theorem rT_loop1 (s : Sch) (h : SchTx s) (N : Nat) (k : Nat) (hm : s.Messages.length < k) : R_ref17_Text_1 dd Prim.powG N k [so s] (.ptr (1, 0) 0) (i64 0) (st (bsL (s.Enums.flatMap enumL))) = some (st (bsL (textL s))) := by
  have key := loop_acc s.Messages (P := fun dn r k => ∀ l, l = s.Enums.flatMap enumL ++ dn.flatMap msgL → R_ref17_Text_1 dd Prim.powG N k [so s] (.ptr (1, 0) 0) (i64 dn.length) (st (bsL l)) = some (st (bsL (textL s)))) (by
    intro k l hl
    rw [R_ref17_Text_1_s]
    have : l = textL s := by rw [hl, textL]
    simp [X, Y, Z, this]) (by
    intro dn m r k he hi hx ih l hl
    have hlen := h.len
    have hml := msgL_len m (h.ms m (mem_at hx))
    have e0 : textL s = l ++ (msgL m ++ r.flatMap msgL) := by rw [hl, textL, he]; simp [List.flatMap_append, List.append_assoc]
    have hll : l.length ≤ 5000000000 := by rw [e0, List.length_append] at hlen; omega
    have ih := ih (l ++ msgL m) (by rw [hl]; simp [List.flatMap_append, List.append_assoc])
    rw [List.length_append, List.length_cons, List.length_nil] at ih
    push_cast at ih
    have hvl := h.ok.messages
    have e1 : (bsL l).size + (bsL (msgL m)).size ≤ 9223372036854775807 := by rw [bsL_size, bsL_size]; omega
    have e2 : bsL l ++ bsL (msgL m) = bsL (l ++ msgL m) := by rw [bsL_app, bsL_data]
    have hd := d_rMsgT m (h.ms m (mem_at hx))
    rw [R_ref17_Text_1_s]
    simp [X, Y, Z, hi, xi_at hx, hd, e1, e2, k_ref17_Text_1, wrap_succ (show dn.length < 4611686018427387904 by omega)]
    exact ih) k hm
  exact key _ (by simp)
theorem rT_loop0 (s : Sch) (h : SchTx s) (N : Nat) (hN : s.Messages.length < N) (k : Nat) (hm : s.Enums.length < k) : R_ref17_Text_0 dd Prim.powG N k [so s] (.ptr (1, 0) 0) (i64 0) (st (bsL [])) = some (st (bsL (textL s))) := by
  have key := loop_acc s.Enums (P := fun dn r k => ∀ l, l = dn.flatMap enumL → R_ref17_Text_0 dd Prim.powG N k [so s] (.ptr (1, 0) 0) (i64 dn.length) (st (bsL l)) = some (st (bsL (textL s)))) (by
    intro k l hl
    have h2 := rT_loop1 s h N N hN
    rw [← hl] at h2
    rw [R_ref17_Text_0_s]
    simp [X, Y, Z, k_ref17_Text_1]
    exact h2) (by
    intro dn e r k he hi hx ih l hl
    have hlen := h.len
    have hml := enumL_len e (h.en e (mem_at hx))
    have e0 : textL s = l ++ (enumL e ++ (r.flatMap enumL ++ s.Messages.flatMap msgL)) := by rw [hl, textL, he]; simp [List.flatMap_append, List.append_assoc]
    have hll : l.length ≤ 5000000000 := by rw [e0, List.length_append] at hlen; omega
    have ih := ih (l ++ enumL e) (by rw [hl]; simp [List.flatMap_append, List.append_assoc])
    rw [List.length_append, List.length_cons, List.length_nil] at ih
    push_cast at ih
    have hvl := h.ok.enums
    have e1 : (bsL l).size + (bsL (enumL e)).size ≤ 9223372036854775807 := by rw [bsL_size, bsL_size]; omega
    have e2 : bsL l ++ bsL (enumL e) = bsL (l ++ enumL e) := by rw [bsL_app, bsL_data]
    have hd := d_rEnumT e (h.en e (mem_at hx))
    rw [R_ref17_Text_0_s]
    simp [X, Y, Z, hi, xi_at hx, hd, e1, e2, k_ref17_Text_0, wrap_succ (show dn.length < 4611686018427387904 by omega)]
    exact ih) k hm
  exact key _ (by simp)
theorem d_rTextS (s : Sch) (h : SchTx s) : dd i_ref17_Text [sch s] = some (st (textS s)) := by
  refine D_runE (V := v_ref17_Text) 1000 rfl rfl rfl ?_
  rw [s_ref17_Text]
  have h1 := rT_loop0 s h 1000 (by have := h.ok.messages; omega) 1000 (by have := h.ok.enums; omega)
  have h2 : (⟨#[]⟩ : ByteArray) = bsL [] := rfl
  unfold textS
  by_cases h0 : rCheckF s = 0
  · simp [X, Y, Z, d_rCheckS s h.ok, h0, k_ref17_Text_0]
    exact h1
  · simp [X, Y, Z, d_rCheckS s h.ok, h0]
end Go.Proofs.YtmhdapjmndfkgaaGreatDoor.Sp.B
