/- The reference's texts. -/
import Derived.Test.YtmhdapjmndfkgaaGreatDoorSpI
namespace Go.Proofs.YtmhdapjmndfkgaaGreatDoor.Sp.B
open Go Go.Proofs.YtmhdapjmndfkgaaGreatDoor.Eng Go.Proofs.YtmhdapjmndfkgaaGreatDoor.Eng.V
set_option linter.unusedSimpArgs false
set_option linter.unusedVariables false
open Sp
open Sp.W (lt2 riseP sl xi_at wrap_succ wrap_nat wrap_pred)
/-- A line's bytes. -/
def lnF (ws : List ByteArray) : List UInt8 := cat ws ++ [10]
abbrev bsT (l : List UInt8) : ByteArray := ⟨l.toArray⟩
def dgt (n : Int) : ByteArray := digF (IntKind.u64.wrap (if 0 > n then 0 else n)) false
theorem wrap_u (x : Int) : 0 ≤ IntKind.u64.wrap x ∧ IntKind.u64.wrap x < 18446744073709551616 := by rw [IntKind.wrap_u64]; omega
theorem dgt_size (n : Int) : (dgt n).size ≤ 20 := by
  have := digU_size (IntKind.u64.wrap (if 0 > n then 0 else n)).toNat (by have := wrap_u (if 0 > n then 0 else n); omega)
  simpa [dgt, digF] using this
theorem d_sDigits (n : Int) : dd i_sprint_digits [i64 n] = some (st (dgt n)) := by
  refine D_runE (V := v_sprint_digits) 1 rfl rfl rfl ?_
  rw [s_sprint_digits]
  have hw := wrap_u (if 0 > n then 0 else n)
  have hd := d_lexDigits _ false hw.1 hw.2
  simp only [X, Y, Z, mmV]
  simp [X, Y, Z, hd, dgt]
theorem dig_eq (x : Int) (h : 0 ≤ x) : digF x false = rdigF x.toNat false := by
  unfold digF rdigF digU
  by_cases hz : x.toNat = 0
  · rw [hz, if_pos rfl]
    simp [Lib.decDigits_one]
  · rw [if_neg hz]
    rfl
theorem d_rDigits (n : Int) : dd i_ref17_digits [i64 n] = some (st (dgt n)) := by
  refine D_runE (V := v_ref17_digits) 1 rfl rfl rfl ?_
  rw [s_ref17_digits]
  have hw := wrap_u n
  have hd := d_refDigits (IntKind.u64.wrap n).toNat false (by omega)
  rw [Int.toNat_of_nonneg hw.1, ← dig_eq _ hw.1] at hd
  by_cases hn : n < 0
  · have e : dgt n = ⟨#[48]⟩ := by
      have : (0 : Int) > n := hn
      unfold dgt
      rw [if_pos this]
      have : IntKind.u64.wrap 0 = 0 := by decide
      rw [this]
      simp [digF, digU, Lib.decDigits_one]
    simp [X, Y, Z, hn, e]
  · have e : dgt n = digF (IntKind.u64.wrap n) false := by
      have : ¬ (0 : Int) > n := hn
      unfold dgt
      rw [if_neg this]
    simp [X, Y, Z, hn, e, hd]
abbrev tEnum : ByteArray := ⟨#[101, 110, 117, 109, 32]⟩
abbrev tOpen : ByteArray := ⟨#[32, 123]⟩
abbrev tInd : ByteArray := ⟨#[32, 32]⟩
abbrev tEq : ByteArray := ⟨#[32, 61, 32]⟩
abbrev tSemi : ByteArray := ⟨#[59]⟩
abbrev tClose : ByteArray := ⟨#[125]⟩
abbrev tMsg : ByteArray := ⟨#[109, 101, 115, 115, 97, 103, 101, 32]⟩
abbrev tRes : ByteArray := ⟨#[114, 101, 115, 101, 114, 118, 101, 100, 32]⟩
abbrev tComma : ByteArray := ⟨#[44, 32]⟩
abbrev tOne : ByteArray := ⟨#[111, 110, 101, 111, 102, 32]⟩
def vlnL (v : Vl) : List UInt8 := lnF [tInd, v.Name, tEq, dgt v.Num, tSemi]
def enumL (e : En) : List UInt8 := lnF [tEnum, e.Name, tOpen] ++ e.Values.flatMap vlnL ++ lnF [tClose]
def barL (l : List Int) : List UInt8 := if l = [] then [] else lnF [tInd, tRes, Prim.joinB (l.map dgt) tComma, tSemi]
def oneB (f : Fld) : ByteArray := bif decide (f.One = noS) then noS else tOne ++ f.One ++ ⟨#[32]⟩
def fldL (f : Fld) : List UInt8 := lnF [tInd, oneB f, textF f]
def msgL (m : Ms) : List UInt8 := lnF [tMsg, m.Name, tOpen] ++ barL m.Barred ++ m.Fields.flatMap fldL ++ lnF [tClose]
theorem lnF_len (ws : List ByteArray) : (lnF ws).length = (ws.map ByteArray.size).sum + 1 := by
  unfold lnF cat
  rw [List.length_append, List.length_flatMap]
  rfl
theorem flat_len {α : Type} (f : α → List UInt8) (b : Nat) : ∀ (l : List α), (∀ x ∈ l, (f x).length ≤ b) → (l.flatMap f).length ≤ l.length * b
  | [], _ => Nat.zero_le _
  | x :: l, h => by
    rw [List.flatMap_cons, List.length_append, List.length_cons, Nat.succ_mul]
    have := flat_len f b l fun y hy => h y (List.mem_cons_of_mem _ hy)
    have := h x List.mem_cons_self
    omega
/-- Names that may be. -/
structure EnOk (e : En) : Prop where
  nm : e.Name.size ≤ 2010
  vl : e.Values.length < 1000
  vn : ∀ v ∈ e.Values, v.Name.size ≤ 1000
structure MsOk (m : Ms) : Prop where
  nm : m.Name.size ≤ 2010
  fl : m.Fields.length < 1000
  bl : m.Barred.length < 1000
  fd : ∀ f ∈ m.Fields, f.Name.size ≤ 1000 ∧ f.Ref.size ≤ 1000 ∧ f.One.size ≤ 1000
theorem vlnL_len (v : Vl) (h : v.Name.size ≤ 1000) : (vlnL v).length ≤ 1100 := by
  have := dgt_size v.Num
  unfold vlnL
  rw [lnF_len]
  simp only [List.map_cons, List.map_nil, List.sum_cons, List.sum_nil]
  have : tInd.size = 2 := rfl
  have : tEq.size = 3 := rfl
  have : tSemi.size = 1 := rfl
  omega
theorem enumL_len (e : En) (h : EnOk e) : (enumL e).length ≤ 1200000 := by
  have h1 := flat_len vlnL 1100 e.Values fun v hv => vlnL_len v (h.vn v hv)
  have h2 := h.vl
  have h3 := h.nm
  unfold enumL
  rw [List.length_append, List.length_append, lnF_len, lnF_len]
  simp only [List.map_cons, List.map_nil, List.sum_cons, List.sum_nil]
  have : tEnum.size = 5 := rfl
  have : tOpen.size = 2 := rfl
  have : tClose.size = 1 := rfl
  omega
def bsL (l : List UInt8) : ByteArray := bsT l
theorem bsL_app (l : List UInt8) (a : ByteArray) : bsL l ++ a = bsL (l ++ a.data.toList) := by
  apply ByteArray.ext
  rw [ByteArray.data_append]
  simp [bsL]
theorem bsL_size (l : List UInt8) : (bsL l).size = l.length := by simp [bsL, ByteArray.size]
theorem bsL_data (l : List UInt8) : (bsL l).data.toList = l := by simp [bsL]
theorem bsL_of (a : ByteArray) : a = bsL a.data.toList := by
  apply ByteArray.ext
  simp [bsL]
theorem rE_loop (e : En) (ok : EnOk e) (N : Nat) (m : Nat) (hm : e.Values.length < m) : R_ref17_Enum_0 dd Prim.powG N m [((1, 0), .var (eE e) false)] (.ptr (1, 0) 0) (i64 0) (st (bsL (lnF [tEnum, e.Name, tOpen]))) = some (st (bsL (enumL e))) := by
  have h := loop_acc e.Values (P := fun dn r m => ∀ l, l = lnF [tEnum, e.Name, tOpen] ++ dn.flatMap vlnL → R_ref17_Enum_0 dd Prim.powG N m [((1, 0), .var (eE e) false)] (.ptr (1, 0) 0) (i64 dn.length) (st (bsL l)) = some (st (bsL (enumL e)))) (by
    intro m l hl
    have hlen := enumL_len e ok
    have e0 : enumL e = l ++ lnF [tClose] := by rw [hl, enumL, List.append_assoc]
    have e1 : (bsL l).size + (⟨#[125, 10]⟩ : ByteArray).size ≤ 9223372036854775807 := by
      have : (⟨#[125, 10]⟩ : ByteArray).size = 2 := rfl
      rw [bsL_size]
      rw [e0, List.length_append] at hlen
      omega
    have e2 : bsL l ++ ⟨#[125, 10]⟩ = bsL (enumL e) := by rw [bsL_app, e0]; rfl
    rw [R_ref17_Enum_0_s]
    simp [X, Y, Z, e1, e2]) (by
    intro dn v r m he hi hx ih l hl
    have hlen := enumL_len e ok
    have hv := ok.vn v (mem_at hx)
    have hd := dgt_size v.Num
    have e0 : enumL e = l ++ (vlnL v ++ (r.flatMap vlnL ++ lnF [tClose])) := by rw [hl, enumL, he]; simp [List.flatMap_append, List.append_assoc]
    have hll : l.length ≤ 1200000 := by rw [e0, List.length_append] at hlen; omega
    have z1 : (⟨#[32, 32]⟩ : ByteArray).size = 2 := rfl
    have z2 : (⟨#[32, 61, 32]⟩ : ByteArray).size = 3 := rfl
    have z3 : (⟨#[59, 10]⟩ : ByteArray).size = 2 := rfl
    have z0 := bsL_size l
    have e1 : (bsL l).size + (⟨#[32, 32]⟩ : ByteArray).size ≤ 9223372036854775807 := by omega
    have e2 : (bsL l).size + (⟨#[32, 32]⟩ : ByteArray).size + v.Name.size ≤ 9223372036854775807 := by omega
    have e3 : (bsL l).size + (⟨#[32, 32]⟩ : ByteArray).size + v.Name.size + (⟨#[32, 61, 32]⟩ : ByteArray).size ≤ 9223372036854775807 := by omega
    have e4 : (bsL l).size + (⟨#[32, 32]⟩ : ByteArray).size + v.Name.size + (⟨#[32, 61, 32]⟩ : ByteArray).size + (dgt v.Num).size ≤ 9223372036854775807 := by omega
    have e5 : (bsL l).size + (⟨#[32, 32]⟩ : ByteArray).size + v.Name.size + (⟨#[32, 61, 32]⟩ : ByteArray).size + (dgt v.Num).size + (⟨#[59, 10]⟩ : ByteArray).size ≤ 9223372036854775807 := by omega
    have e6 : bsL l ++ ⟨#[32, 32]⟩ ++ v.Name ++ ⟨#[32, 61, 32]⟩ ++ dgt v.Num ++ ⟨#[59, 10]⟩ = bsL (l ++ vlnL v) := by
      simp only [bsL_app]
      refine congrArg bsL ?_
      simp [vlnL, lnF, cat, tInd, tEq, tSemi, List.append_assoc]
    have ih := ih (l ++ vlnL v) (by rw [hl]; simp [List.flatMap_append, List.append_assoc])
    rw [List.length_append, List.length_cons, List.length_nil] at ih
    push_cast at ih
    have hvl := ok.vl
    rw [R_ref17_Enum_0_s]
    simp [X, Y, Z, hi, xi_at hx, d_rDigits, e1, e2, e3, e4, e5, e6, k_ref17_Enum_0, wrap_succ (show dn.length < 4611686018427387904 by omega)]
    exact ih) m hm
  exact h _ (by simp)
theorem d_rEnumT (e : En) (ok : EnOk e) : dd i_ref17_Enum [aE e] = some (st (bsL (enumL e))) := by
  refine D_runE (V := v_ref17_Enum) (e.Values.length + 1) rfl rfl rfl ?_
  rw [s_ref17_Enum]
  have h := rE_loop e ok (e.Values.length + 1) (e.Values.length + 1) (by omega)
  have hn := ok.nm
  have z1 : (⟨#[101, 110, 117, 109, 32]⟩ : ByteArray).size = 5 := rfl
  have z2 : (⟨#[32, 123, 10]⟩ : ByteArray).size = 3 := rfl
  have e1 : (⟨#[101, 110, 117, 109, 32]⟩ : ByteArray).size + e.Name.size ≤ 9223372036854775807 := by omega
  have e2 : (⟨#[101, 110, 117, 109, 32]⟩ : ByteArray).size + e.Name.size + (⟨#[32, 123, 10]⟩ : ByteArray).size ≤ 9223372036854775807 := by omega
  have e3 : (⟨#[101, 110, 117, 109, 32]⟩ : ByteArray) ++ e.Name ++ ⟨#[32, 123, 10]⟩ = bsL (lnF [tEnum, e.Name, tOpen]) := by
    show bsL [101, 110, 117, 109, 32] ++ e.Name ++ ⟨#[32, 123, 10]⟩ = _
    simp only [bsL_app]
    refine congrArg bsL ?_
    simp [lnF, cat]
  simp [X, Y, Z, e1, e2, e3, k_ref17_Enum_0]
  exact h
end Go.Proofs.YtmhdapjmndfkgaaGreatDoor.Sp.B
