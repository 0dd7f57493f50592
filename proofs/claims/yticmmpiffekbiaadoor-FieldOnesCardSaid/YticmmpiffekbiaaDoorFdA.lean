/- What the functions of fields come to. -/
import Derived.Test.YticmmpiffekbiaaDoorFdT
import Derived.Test.YticmmpiffekbiaaDoorPrim
import Derived.Test.YticmmpiffekbiaaDoorRight
import Derived.Test.YticmmpiffekbiaaDoorEng5
namespace Go.Proofs.YticmmpiffekbiaaDoor.Fd
open Go Go.Proofs.YticmmpiffekbiaaDoor.Eng Go.Proofs.YticmmpiffekbiaaDoor.Eng.V
set_option linter.unusedSimpArgs false
set_option linter.unusedVariables false
noncomputable abbrev dd : Eng.Call := D defs Prim.primsR Prim.powG
abbrev i64 (n : Int) : AV := .v (.int .i64 n)
abbrev u64 (n : Int) : AV := .v (.int .u64 n)
abbrev bl (b : Bool) : AV := .v (.bool b)
abbrev st (s : ByteArray) : AV := .v (.string s)
def kindF (ty : Int) : Int := if ty < 0 then 0 else if 16 ≤ ty then 0 else [0, 7, 15, 3, 11, 7, 15, 2, 3, 11, 7, 15, 0, 0, 6, 0].getD ty.toNat 0
theorem d_kind (ty : Int) : dd i_scalar_kind [i64 ty] = some (i64 (kindF ty)) := by
  refine D_runE (V := v_scalar_kind) 1 rfl rfl rfl ?_
  rw [s_scalar_kind]
  by_cases h1 : ty < 0
  · simp [X, Y, Z, h1, kindF]
  · by_cases h2 : 16 ≤ ty
    · simp [X, Y, Z, h1, h2, kindF]
    · have : ty = 0 ∨ ty = 1 ∨ ty = 2 ∨ ty = 3 ∨ ty = 4 ∨ ty = 5 ∨ ty = 6 ∨ ty = 7 ∨ ty = 8 ∨ ty = 9 ∨ ty = 10 ∨ ty = 11 ∨ ty = 12 ∨ ty = 13 ∨ ty = 14 ∨ ty = 15 := by omega
      rcases this with rfl | rfl | rfl | rfl | rfl | rfl | rfl | rfl | rfl | rfl | rfl | rfl | rfl | rfl | rfl | rfl <;> simp [X, Y, Z, kindF]
def andK (m : Int) (ty : Int) : Bool := !decide (IntKind.i64.wrap (BitVec.ofInt 64 (kindF ty) &&& BitVec.ofInt 64 m).toNat = 0)
/-- A number's digits. -/
def digU (n : Nat) : ByteArray := ⟨(Lib.decDigits n).toArray⟩
theorem d_FormatUint (n : Int) (h : 0 ≤ n) (h' : n < 18446744073709551616) : dd i_strconv_FormatUint [u64 n, i64 10] = some (st (digU n.toNat)) := D_prim (by simp [Prim.primsR, Prim.prims, h, h', digU])
def digF (n : Int) (neg : Bool) : ByteArray := bif neg && !decide (n = 0) then (⟨#[45]⟩ : ByteArray) ++ digU n.toNat else digU n.toNat
theorem digU_size (n : Nat) (h : n < 18446744073709551616) : (digU n).size ≤ 20 := by
  have e : (digU n).size = (Lib.decDigits n).length := by simp [digU, ByteArray.size]
  rw [e, Lib.decDigits_length]
  by_cases h1 : 1 ≤ n
  · have := Lib.numDigits_eq n h1 h; split at this <;> omega
  · have : n = 0 := by omega
    subst this
    simp [Lib.nDigits_small]
theorem d_lexDigits (n : Int) (neg : Bool) (h : 0 ≤ n) (h' : n < 18446744073709551616) : dd i_lex_Digits [u64 n, bl neg] = some (st (digF n neg)) := by
  refine D_runE (V := v_lex_Digits) 1 rfl rfl rfl ?_
  rw [s_lex_Digits]
  have hs := digU_size n.toNat (by omega)
  have hz : (⟨#[45]⟩ : ByteArray).size + (digU n.toNat).size ≤ 9223372036854775807 := by
    have : (⟨#[45]⟩ : ByteArray).size = 1 := rfl
    omega
  have hz' : decide ((⟨#[45]⟩ : ByteArray).size + (digU n.toNat).size ≤ 9223372036854775807) = true := decide_eq_true hz
  have hF := d_FormatUint n h h'
  cases neg <;> cases h0 : decide (n = 0) <;> simp only [X, Y, Z, hF, h0, digF, hz'] <;> rfl
theorem d_Right (s : ByteArray) : dd i_ident_Right [st s] = some (bl (Prim.rightF s)) := D_prim rfl
structure Fld where
  Name : ByteArray
  Num : Int
  Ty : Int
  Ref : ByteArray
  Rep : Bool
  Loose : Bool
  One : ByteArray
abbrev Fld.cells (f : Fld) : List AV := [st f.Name, i64 f.Num, i64 f.Ty, st f.Ref, bl f.Rep, bl f.Loose, st f.One]
abbrev fl (f : Fld) : AV := .agg f.cells
abbrev noS : ByteArray := ⟨#[]⟩
def tagnumF (n : Int) : Bool := decide (1 ≤ n) && decide (n ≤ 536870911)
theorem d_tagnumber (n : Int) : dd i_tag_number [i64 n] = some (bl (tagnumF n)) := by
  refine D_runE (V := v_tag_number) 1 rfl rfl rfl ?_
  rw [s_tag_number]
  cases h1 : decide (1 ≤ n) <;> simp only [X, Y, Z, tagnumF, h1] <;> rfl
def tagF (n : Int) : Bool := tagnumF n && (decide (n < 19000) || decide (19999 < n))
theorem d_tagField (n : Int) : dd i_tag_Field [i64 n] = some (bl (tagF n)) := by
  refine D_runE (V := v_tag_Field) 1 rfl rfl rfl ?_
  rw [s_tag_Field]
  cases h1 : tagnumF n <;> cases h2 : decide (n < 19000) <;> simp only [X, Y, Z, d_tagnumber, tagF, h1, h2] <;> rfl
theorem d_Number (ty : Int) : dd i_scalar_Number [i64 ty] = some (bl (andK 2 ty)) := by
  refine D_runE (V := v_scalar_Number) 1 rfl rfl rfl ?_
  rw [s_scalar_Number]
  simp only [X, Y, Z, d_kind, andK]
  rfl
def refersF (ty : Int) : Bool := decide (ty = 14) || decide (ty = 15)
theorem d_refers (ty : Int) : dd i_field_refers [i64 ty] = some (bl (refersF ty)) := by
  refine D_runE (V := v_field_refers) 1 rfl rfl rfl ?_
  rw [s_field_refers]
  cases h1 : decide (ty = 14) <;> simp only [X, Y, Z, refersF, h1] <;> rfl
def named2 (f : Fld) (b : Bool) : Bool := b && (Prim.rightF f.Name && (decide (f.One = noS) || Prim.rightF f.One))
theorem j_named (f : Fld) (b : Bool) : J_field_named_0 dd Prim.powG 1 [((1, 0), .var f.cells false)] (.ptr (1, 0) 0) (bl b) = some (bl (named2 f b)) := by
  cases b <;> cases h1 : Prim.rightF f.Name <;> cases h2 : decide (f.One = noS) <;> simp [J_field_named_0, X, Y, Z, d_Right, named2, h1, h2]
def namedF (f : Fld) : Bool := named2 f (bif refersF f.Ty then Prim.rightF f.Ref else decide (f.Ref = noS))
theorem d_named (f : Fld) : dd i_field_named [fl f] = some (bl (namedF f)) := by
  refine D_runE (V := v_field_named) 1 rfl rfl rfl ?_
  rw [s_field_named]
  cases h1 : refersF f.Ty <;> simp [X, Y, Z, d_Right, d_refers, h1, j_named, namedF]
def chk2 (f : Fld) (b : Bool) : Int := bif b then 1 else bif f.Rep && !decide (f.One = noS) then 1 else bif f.Loose && !(f.Rep && andK 2 f.Ty) then 1 else bif !tagF f.Num then 1 else 0
theorem j_Check (f : Fld) (b : Bool) : J_field_Check_0 dd Prim.powG 1 [((1, 0), .var f.cells false)] (.ptr (1, 0) 0) (i64 0) (bl b) = some (i64 (chk2 f b)) := by
  obtain ⟨a1, a2, a3, a4, rep, loose, one⟩ := f
  cases b
  · cases rep <;> cases loose <;> cases h2 : decide (one = noS) <;> cases h3 : andK 2 a3 <;> cases h4 : tagF a2 <;> simp [J_field_Check_0, X, Y, Z, d_Number, d_tagField, chk2, h2, h3, h4]
  · simp [J_field_Check_0, X, Y, Z, chk2]
def checkF (f : Fld) : Int := bif !namedF f then 2 else chk2 f (decide (f.Ty < 1) || decide (15 < f.Ty))
theorem d_fCheck (f : Fld) : dd i_field_Check [fl f] = some (i64 (checkF f)) := by
  refine D_runE (V := v_field_Check) 1 rfl rfl rfl ?_
  rw [s_field_Check]
  cases h1 : namedF f <;> by_cases h2 : f.Ty < 1 <;> simp [X, Y, Z, d_named, h1, h2, checkF, j_Check]
def packedF (f : Fld) : Bool := f.Rep && (!f.Loose && andK 2 f.Ty)
theorem d_Packed (f : Fld) : dd i_field_Packed [fl f] = some (bl (packedF f)) := by
  refine D_runE (V := v_field_Packed) 1 rfl rfl rfl ?_
  rw [s_field_Packed]
  obtain ⟨a1, a2, a3, a4, rep, loose, one⟩ := f
  cases rep <;> cases loose <;> simp [X, Y, Z, d_Number, packedF]
def hiddenF (f : Fld) : Bool := !f.Rep && (decide (f.One = noS) && !decide (f.Ty = 15))
theorem d_Hidden (f : Fld) : dd i_field_Hidden [fl f] = some (bl (hiddenF f)) := by
  refine D_runE (V := v_field_Hidden) 1 rfl rfl rfl ?_
  rw [s_field_Hidden]
  obtain ⟨a1, a2, a3, a4, rep, loose, one⟩ := f
  cases rep <;> cases h2 : decide (one = noS) <;> simp [X, Y, Z, hiddenF, h2]
/-- The types' words. -/
def wordT (ty : Int) : ByteArray := if ty < 0 then noS else if 16 ≤ ty then noS else [noS, ⟨#[105, 110, 116, 51, 50]⟩, ⟨#[105, 110, 116, 54, 52]⟩, ⟨#[117, 105, 110, 116, 51, 50]⟩, ⟨#[117, 105, 110, 116, 54, 52]⟩, ⟨#[115, 105, 110, 116, 51, 50]⟩, ⟨#[115, 105, 110, 116, 54, 52]⟩, ⟨#[98, 111, 111, 108]⟩, ⟨#[102, 105, 120, 101, 100, 51, 50]⟩, ⟨#[102, 105, 120, 101, 100, 54, 52]⟩, ⟨#[115, 102, 105, 120, 101, 100, 51, 50]⟩, ⟨#[115, 102, 105, 120, 101, 100, 54, 52]⟩, ⟨#[115, 116, 114, 105, 110, 103]⟩, ⟨#[98, 121, 116, 101, 115]⟩, noS, noS].getD ty.toNat noS
theorem d_Word (ty : Int) : dd i_scalar_Word [i64 ty] = some (st (wordT ty)) := by
  refine D_runE (V := v_scalar_Word) 1 rfl rfl rfl ?_
  rw [s_scalar_Word]
  by_cases h1 : ty < 0
  · simp [X, Y, Z, h1, wordT]
  · by_cases h2 : 16 ≤ ty
    · simp [X, Y, Z, h1, h2, wordT]
    · have : ty = 0 ∨ ty = 1 ∨ ty = 2 ∨ ty = 3 ∨ ty = 4 ∨ ty = 5 ∨ ty = 6 ∨ ty = 7 ∨ ty = 8 ∨ ty = 9 ∨ ty = 10 ∨ ty = 11 ∨ ty = 12 ∨ ty = 13 ∨ ty = 14 ∨ ty = 15 := by omega
      rcases this with rfl | rfl | rfl | rfl | rfl | rfl | rfl | rfl | rfl | rfl | rfl | rfl | rfl | rfl | rfl | rfl <;> simp [X, Y, Z, wordT]
theorem wordT_size (ty : Int) : (wordT ty).size ≤ 20 := by
  unfold wordT
  split
  · decide
  · split
    · decide
    · have : ty = 0 ∨ ty = 1 ∨ ty = 2 ∨ ty = 3 ∨ ty = 4 ∨ ty = 5 ∨ ty = 6 ∨ ty = 7 ∨ ty = 8 ∨ ty = 9 ∨ ty = 10 ∨ ty = 11 ∨ ty = 12 ∨ ty = 13 ∨ ty = 14 ∨ ty = 15 := by omega
      rcases this with rfl | rfl | rfl | rfl | rfl | rfl | rfl | rfl | rfl | rfl | rfl | rfl | rfl | rfl | rfl | rfl <;> decide
def aheadF (f : Fld) : ByteArray := bif f.Loose then ⟨#[108, 111, 111, 115, 101, 32]⟩ else bif f.Rep then ⟨#[114, 101, 112, 101, 97, 116, 101, 100, 32]⟩ else noS
theorem d_ahead (f : Fld) : dd i_field_ahead [fl f] = some (st (aheadF f)) := by
  refine D_runE (V := v_field_ahead) 1 rfl rfl rfl ?_
  rw [s_field_ahead]
  obtain ⟨a1, a2, a3, a4, rep, loose, one⟩ := f
  cases rep <;> cases loose <;> simp [X, Y, Z, aheadF]
theorem ahead_size (f : Fld) : (aheadF f).size ≤ 20 := by
  unfold aheadF
  cases f.Loose <;> cases f.Rep <;> decide
/-- Texts one behind the other. -/
theorem q_cat {a b : ByteArray} {k : AV → Out} {u : Tag k} (h : a.size + b.size ≤ 9223372036854775807) : Xq (.bin .add (.c (st a)) (.c (st b))) k u = k (st (a ++ b)) := by
  rw [q_sadd]
  simp [ifK, h]
def textB (f : Fld) (t : ByteArray) : ByteArray := aheadF f ++ t ++ ⟨#[32]⟩ ++ f.Name ++ ⟨#[32, 61, 32]⟩ ++ digF (IntKind.u64.wrap f.Num) false ++ ⟨#[59]⟩
theorem j_Text (f : Fld) (t : ByteArray) (hn : f.Name.size ≤ 100000) (ht : t.size ≤ 100000) : J_field_Text_0 dd Prim.powG 1 [((1, 0), .var f.cells false)] (.ptr (1, 0) 0) (st t) = some (st (textB f t)) := by
  have hw : 0 ≤ IntKind.u64.wrap f.Num ∧ IntKind.u64.wrap f.Num < 18446744073709551616 := by rw [IntKind.wrap_u64]; omega
  have hd := d_lexDigits (IntKind.u64.wrap f.Num) false hw.1 hw.2
  have hds : (digF (IntKind.u64.wrap f.Num) false).size ≤ 20 := by
    have := digU_size (IntKind.u64.wrap f.Num).toNat (by omega)
    simpa [digF] using this
  have ha := ahead_size f
  have l1 : (⟨#[32]⟩ : ByteArray).size = 1 := rfl
  have l2 : (⟨#[32, 61, 32]⟩ : ByteArray).size = 3 := rfl
  have l3 : (⟨#[59]⟩ : ByteArray).size = 1 := rfl
  have e1 : (aheadF f).size + t.size ≤ 9223372036854775807 := by omega
  have e2 : (aheadF f).size + t.size + (⟨#[32]⟩ : ByteArray).size ≤ 9223372036854775807 := by omega
  have e3 : (aheadF f).size + t.size + (⟨#[32]⟩ : ByteArray).size + f.Name.size ≤ 9223372036854775807 := by omega
  have e4 : (aheadF f).size + t.size + (⟨#[32]⟩ : ByteArray).size + f.Name.size + (⟨#[32, 61, 32]⟩ : ByteArray).size ≤ 9223372036854775807 := by omega
  have e5 : (aheadF f).size + t.size + (⟨#[32]⟩ : ByteArray).size + f.Name.size + (⟨#[32, 61, 32]⟩ : ByteArray).size + (digF (IntKind.u64.wrap f.Num) false).size ≤ 9223372036854775807 := by omega
  have e6 : (aheadF f).size + t.size + (⟨#[32]⟩ : ByteArray).size + f.Name.size + (⟨#[32, 61, 32]⟩ : ByteArray).size + (digF (IntKind.u64.wrap f.Num) false).size + (⟨#[59]⟩ : ByteArray).size ≤ 9223372036854775807 := by omega
  simp [J_field_Text_0, X, Y, Z, d_ahead, hd, e1, e2, e3, e4, e5, e6, textB]
def textF (f : Fld) : ByteArray := if checkF f = 0 then textB f (bif decide (f.Ref = noS) then wordT f.Ty else f.Ref) else noS
theorem d_fText (f : Fld) (hn : f.Name.size ≤ 100000) (hr : f.Ref.size ≤ 100000) : dd i_field_Text [fl f] = some (st (textF f)) := by
  refine D_runE (V := v_field_Text) 1 rfl rfl rfl ?_
  rw [s_field_Text]
  have hw := wordT_size f.Ty
  have j1 := j_Text f f.Ref hn hr
  have j2 := j_Text f (wordT f.Ty) hn (by omega)
  by_cases h1 : checkF f = 0 <;> cases h2 : decide (f.Ref = noS) <;> simp [X, Y, Z, d_fCheck, d_Word, h1, h2, j1, j2, textF]
end Go.Proofs.YticmmpiffekbiaaDoor.Fd
