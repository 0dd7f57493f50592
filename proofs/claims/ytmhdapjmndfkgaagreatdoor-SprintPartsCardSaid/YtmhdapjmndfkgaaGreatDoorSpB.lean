/- schema.Check. -/
import Derived.Test.YtmhdapjmndfkgaaGreatDoorSpA
namespace Go.Proofs.YtmhdapjmndfkgaaGreatDoor.Sp.B
open Go Go.Proofs.YtmhdapjmndfkgaaGreatDoor.Eng Go.Proofs.YtmhdapjmndfkgaaGreatDoor.Eng.V
set_option linter.unusedSimpArgs false
set_option linter.unusedVariables false
open Sp
open Sp.W (lt2 riseP sl xi_at wrap_succ wrap_nat wrap_pred)
theorem d_valueNames (e : En) (hw : e.Values.length < 1000) : dd i_schema_valueNames [aE e] = some (.own 1 true (e.Values.map fun v => [st v.Name])) := by
  refine D_runE (V := v_schema_valueNames) (e.Values.length + 1) rfl rfl rfl ?_
  rw [s_schema_valueNames]
  have h := loop_acc e.Values (P := fun dn r m => R_schema_valueNames_0 dd Prim.powG (e.Values.length + 1) m [((1, 0), .var (eE e) false), ((2, 0), .tail 0 1 false false), ((3, 0), .tail dn.length 1 false false)] (.fsl (e.Values.map eV)) (i64 e.Values.length) (i64 dn.length) (.asl (3, 0) (dn.map fun v => [st v.Name])) (.ptr (1, 0) 0) (.asl (2, 0) []) = some (.own 1 true (e.Values.map fun v => [st v.Name]))) (by
    intro m
    rw [R_schema_valueNames_0_s]
    simp [X, Y, Z]) (by
    intro dn x r m he hi hx ih
    rw [R_schema_valueNames_0_s]
    rw [List.length_append, List.map_append] at ih
    push_cast at ih
    simp [X, Y, Z, hi, xi_at hx, eV, k_schema_valueNames_0, inK, show (dn.length + 1) * 16 ≤ 70368744177664 by omega, wrap_succ (show dn.length < 4611686018427387904 by omega)]
    simpa using ih) (e.Values.length + 1) (by omega)
  simp [X, Y, Z, k_schema_valueNames_0, inK]
  exact h
theorem d_fieldNames (e : Ms) (hw : e.Fields.length < 1000) : dd i_schema_fieldNames [aM e] = some (.own 1 true (e.Fields.map fun v => [st v.Name])) := by
  refine D_runE (V := v_schema_fieldNames) (e.Fields.length + 1) rfl rfl rfl ?_
  rw [s_schema_fieldNames]
  have h := loop_acc e.Fields (P := fun dn r m => R_schema_fieldNames_0 dd Prim.powG (e.Fields.length + 1) m [((1, 0), .var (eM e) false), ((2, 0), .tail 0 1 false false), ((3, 0), .tail dn.length 1 false false)] (.fsl (e.Fields.map Fld.cells)) (i64 e.Fields.length) (i64 dn.length) (.asl (3, 0) (dn.map fun v => [st v.Name])) (.ptr (1, 0) 0) (.asl (2, 0) []) = some (.own 1 true (e.Fields.map fun v => [st v.Name]))) (by
    intro m
    rw [R_schema_fieldNames_0_s]
    simp [X, Y, Z]) (by
    intro dn x r m he hi hx ih
    rw [R_schema_fieldNames_0_s]
    rw [List.length_append, List.map_append] at ih
    push_cast at ih
    simp [X, Y, Z, hi, xi_at hx, Fld.cells, k_schema_fieldNames_0, inK, show (dn.length + 1) * 16 ≤ 70368744177664 by omega, wrap_succ (show dn.length < 4611686018427387904 by omega)]
    simpa using ih) (e.Fields.length + 1) (by omega)
  simp [X, Y, Z, k_schema_fieldNames_0, inK]
  exact h
theorem R_names1 (s : Sch) (h1 : s.Enums.length < 1000) (h2 : s.Messages.length < 1000) (N : Nat) (hN : s.Messages.length < N) : R_schema_names_1 dd Prim.powG N N [((1, 0), .var [.fsl (s.Enums.map eE), .fsl (s.Messages.map eM)] false), ((2, 0), .tail 0 1 false false), ((3, 0), .tail 0 1 false false), ((4, 0), .tail s.Enums.length 1 false false), ((5, 0), .tail 0 1 false false)] (.fsl (s.Messages.map eM)) (.asl (4, 0) (s.Enums.map fun v => [st v.Name])) (i64 s.Messages.length) (i64 0) (.asl (5, 0) []) (.ptr (1, 0) 0) (.asl (2, 0) []) (.asl (3, 0) []) .undef .undef .undef = some (.tup [.own 1 true (s.Enums.map fun v => [st v.Name]), .own 1 true (s.Messages.map fun v => [st v.Name])]) := by
  have h := loop_acc s.Messages (P := fun dn r m => R_schema_names_1 dd Prim.powG N m [((1, 0), .var [.fsl (s.Enums.map eE), .fsl (s.Messages.map eM)] false), ((2, 0), .tail 0 1 false false), ((3, 0), .tail 0 1 false false), ((4, 0), .tail s.Enums.length 1 false false), ((5, 0), .tail dn.length 1 false false)] (.fsl (s.Messages.map eM)) (.asl (4, 0) (s.Enums.map fun v => [st v.Name])) (i64 s.Messages.length) (i64 dn.length) (.asl (5, 0) (dn.map fun v => [st v.Name])) (.ptr (1, 0) 0) (.asl (2, 0) []) (.asl (3, 0) []) .undef .undef .undef = some (.tup [.own 1 true (s.Enums.map fun v => [st v.Name]), .own 1 true (s.Messages.map fun v => [st v.Name])])) (by
    intro m
    rw [R_schema_names_1_s]
    simp [X, Y, Z]) (by
    intro dn x r m he hi hx ih
    rw [R_schema_names_1_s]
    rw [List.length_append, List.map_append] at ih
    push_cast at ih
    simp [X, Y, Z, hi, xi_at hx, eM, k_schema_names_1, inK, show (dn.length + 1) * 16 ≤ 70368744177664 by omega, wrap_succ (show dn.length < 4611686018427387904 by omega)]
    simpa using ih) N hN
  exact h
theorem R_names0 (s : Sch) (h1 : s.Enums.length < 1000) (h2 : s.Messages.length < 1000) (N : Nat) (hN : s.Messages.length < N) (hN' : s.Enums.length < N) : R_schema_names_0 dd Prim.powG N N [((1, 0), .var [.fsl (s.Enums.map eE), .fsl (s.Messages.map eM)] false), ((2, 0), .tail 0 1 false false), ((3, 0), .tail 0 1 false false), ((4, 0), .tail 0 1 false false), ((5, 0), .tail 0 1 false false)] (.fsl (s.Enums.map eE)) (.asl (5, 0) []) (.ptr (1, 0) 0) (i64 s.Enums.length) (i64 0) (.asl (4, 0) []) (.asl (2, 0) []) (.asl (3, 0) []) .undef .undef .undef = some (.tup [.own 1 true (s.Enums.map fun v => [st v.Name]), .own 1 true (s.Messages.map fun v => [st v.Name])]) := by
  have h0 := R_names1 s h1 h2 N hN
  have h := loop_acc s.Enums (P := fun dn r m => R_schema_names_0 dd Prim.powG N m [((1, 0), .var [.fsl (s.Enums.map eE), .fsl (s.Messages.map eM)] false), ((2, 0), .tail 0 1 false false), ((3, 0), .tail 0 1 false false), ((4, 0), .tail dn.length 1 false false), ((5, 0), .tail 0 1 false false)] (.fsl (s.Enums.map eE)) (.asl (5, 0) []) (.ptr (1, 0) 0) (i64 s.Enums.length) (i64 dn.length) (.asl (4, 0) (dn.map fun v => [st v.Name])) (.asl (2, 0) []) (.asl (3, 0) []) .undef .undef .undef = some (.tup [.own 1 true (s.Enums.map fun v => [st v.Name]), .own 1 true (s.Messages.map fun v => [st v.Name])])) (by
    intro m
    rw [R_schema_names_0_s]
    simp [X, Y, Z, k_schema_names_0, k_schema_names_1, inK]
    exact h0) (by
    intro dn x r m he hi hx ih
    rw [R_schema_names_0_s]
    rw [List.length_append, List.map_append] at ih
    push_cast at ih
    simp [X, Y, Z, hi, xi_at hx, eE, k_schema_names_0, inK, show (dn.length + 1) * 16 ≤ 70368744177664 by omega, wrap_succ (show dn.length < 4611686018427387904 by omega)]
    simpa using ih) N hN'
  exact h
abbrev eNames (s : Sch) : List ByteArray := s.Enums.map En.Name
abbrev mNames (s : Sch) : List ByteArray := s.Messages.map Ms.Name
theorem d_names (s : Sch) (h1 : s.Enums.length < 1000) (h2 : s.Messages.length < 1000) : dd i_schema_names [sch s] = some (.tup [.own 1 true ((eNames s).map fun w => [st w]), .own 1 true ((mNames s).map fun w => [st w])]) := by
  refine D_runE (V := v_schema_names) (s.Enums.length + s.Messages.length + 1) rfl rfl rfl ?_
  rw [s_schema_names]
  have h := R_names0 s h1 h2 (s.Enums.length + s.Messages.length + 1) (by omega) (by omega)
  simp [X, Y, Z, k_schema_names_0, inK]
  rw [h]
  rfl
theorem d_Right (s : ByteArray) : dd i_ident_Right [st s] = some (bl (Prim.rightF s)) := D_prim rfl
theorem d_Once (l : List ByteArray) (h : l.length < 8796093022208) : dd i_ident_Once [.fsl (l.map fun w => [st w])] = some (bl (decide l.Nodup)) := D_prim (by
  show (Prim.strsOf _).bind _ = _
  rw [Prim.strsOf_map, Option.bind_some, if_pos h])
theorem d_eachEnum (s : Sch) (hw : s.Enums.length < 1000) (f : FuncId) (caps : List AV) (p : En → Bool) (hF : ∀ e ∈ s.Enums, dd f (aE e :: caps) = some (bl (p e))) : dd i_schema_eachEnum [sch s, .fn f caps] = some (bl (s.Enums.any p)) := by
  refine D_runE (V := v_schema_eachEnum) 1 rfl rfl rfl ?_
  rw [s_schema_eachEnum]
  simp [X, Y, Z, d_cf_E s.Enums (by omega) f caps p hF]
theorem d_eachMessage (s : Sch) (hw : s.Messages.length < 1000) (f : FuncId) (caps : List AV) (p : Ms → Bool) (hF : ∀ e ∈ s.Messages, dd f (aM e :: caps) = some (bl (p e))) : dd i_schema_eachMessage [sch s, .fn f caps] = some (bl (s.Messages.any p)) := by
  refine D_runE (V := v_schema_eachMessage) 1 rfl rfl rfl ?_
  rw [s_schema_eachMessage]
  simp [X, Y, Z, d_cf_M s.Messages (by omega) f caps p hF]
/-- Too much of something. -/
def many1 (e : En) : Bool := decide ((8 : Int) < e.Values.length)
theorem d_many1 (e : En) : dd i_schema_many_1 [aE e] = some (bl (many1 e)) := by
  refine D_runE (V := v_schema_many_1) 1 rfl rfl rfl ?_
  rw [s_schema_many_1]
  simp [X, Y, Z, many1]
def many2 (m : Ms) : Bool := decide ((10 : Int) < m.Fields.length) || decide ((8 : Int) < m.Barred.length)
theorem d_many2 (m : Ms) : dd i_schema_many_2 [aM m] = some (bl (many2 m)) := by
  refine D_runE (V := v_schema_many_2) 1 rfl rfl rfl ?_
  rw [s_schema_many_2]
  unfold many2
  cases h3 : decide ((10 : Int) < m.Fields.length) <;> simp [X, Y, Z, h3]
def manyF (s : Sch) : Bool := decide ((3 : Int) < s.Enums.length) || decide ((6 : Int) < s.Messages.length) || s.Enums.any many1 || s.Messages.any many2
theorem d_many (s : Sch) (ok : SchOk s) : dd i_schema_many [sch s] = some (bl (manyF s)) := by
  refine D_runE (V := v_schema_many) 1 rfl rfl rfl ?_
  rw [s_schema_many]
  have e1 := d_eachEnum s ok.enums i_schema_many_1 [] many1 fun e _ => d_many1 e
  have e2 := d_eachMessage s ok.messages i_schema_many_2 [] many2 fun e _ => d_many2 e
  unfold manyF
  by_cases h3 : (3 : Int) < s.Enums.length <;> by_cases h4 : (6 : Int) < s.Messages.length <;> cases h5 : s.Enums.any many1 <;> simp [X, Y, Z, h3, h4, h5, e1, e2]
/-- Something is not there that must be. -/
def none1 (e : En) : Bool := decide (e.Values.length = 0)
theorem d_none1 (e : En) : dd i_schema_none_1 [aE e] = some (bl (none1 e)) := by
  refine D_runE (V := v_schema_none_1) 1 rfl rfl rfl ?_
  rw [s_schema_none_1]
  simp [X, Y, Z, none1]
def noneF (s : Sch) : Bool := decide (s.Messages.length = 0) || s.Enums.any none1
theorem d_none (s : Sch) (ok : SchOk s) : dd i_schema_none [sch s] = some (bl (noneF s)) := by
  refine D_runE (V := v_schema_none) 1 rfl rfl rfl ?_
  rw [s_schema_none]
  have e1 := d_eachEnum s ok.enums i_schema_none_1 [] none1 fun e _ => d_none1 e
  unfold noneF
  by_cases h3 : s.Messages = [] <;> simp [X, Y, Z, h3, e1]
/-- A name is none. -/
theorem d_misnamed1 (s : ByteArray) : dd i_schema_misnamed_1 [st s] = some (bl (!Prim.rightF s)) := by
  refine D_runE (V := v_schema_misnamed_1) 1 rfl rfl rfl ?_
  rw [s_schema_misnamed_1]
  simp [X, Y, Z, d_Right]
abbrev wrongF (s : ByteArray) : Bool := !Prim.rightF s
def mis2 (e : En) : Bool := wrongF e.Name || (e.Values.map Vl.Name).any wrongF
theorem d_misnamed2 (e : En) (hw : e.Values.length < 1000) : dd i_schema_misnamed_2 [aE e, .fptr [.fn i_schema_misnamed_1 []]] = some (bl (mis2 e)) := by
  refine D_runE (V := v_schema_misnamed_2) 1 rfl rfl rfl ?_
  rw [s_schema_misnamed_2]
  have e1 := d_valueNames e hw
  have e2 := d_cf_S (e.Values.map Vl.Name) (by rw [List.length_map]; omega) i_schema_misnamed_1 [] wrongF fun w _ => d_misnamed1 w
  rw [List.map_map] at e2
  have e3 : (eS ∘ Vl.Name) = fun v => [st v.Name] := rfl
  rw [e3] at e2
  unfold mis2
  cases h : Prim.rightF e.Name <;> simp [X, Y, Z, d_misnamed1, h, e1, e2]
def mis3 (m : Ms) : Bool := wrongF m.Name
theorem d_misnamed3 (m : Ms) : dd i_schema_misnamed_3 [aM m, .fptr [.fn i_schema_misnamed_1 []]] = some (bl (mis3 m)) := by
  refine D_runE (V := v_schema_misnamed_3) 1 rfl rfl rfl ?_
  rw [s_schema_misnamed_3]
  simp [X, Y, Z, d_misnamed1, mis3]
def misnamedF (s : Sch) : Bool := s.Enums.any mis2 || s.Messages.any mis3
theorem d_misnamed (s : Sch) (ok : SchOk s) : dd i_schema_misnamed [sch s] = some (bl (misnamedF s)) := by
  refine D_runE (V := v_schema_misnamed) 1 rfl rfl rfl ?_
  rw [s_schema_misnamed]
  have e1 := d_eachEnum s ok.enums i_schema_misnamed_2 [.fptr [.fn i_schema_misnamed_1 []]] mis2 fun e he => d_misnamed2 e (ok.en e he)
  have e2 := d_eachMessage s ok.messages i_schema_misnamed_3 [.fptr [.fn i_schema_misnamed_1 []]] mis3 fun e _ => d_misnamed3 e
  unfold misnamedF
  cases h3 : s.Enums.any mis2 <;> simp [X, Y, Z, h3, e1, e2]
theorem R_rise (l : List ByteArray) (hw : l.length < 4611686018427387904) (N : Nat) : ∀ (d i m : Nat) (p : ByteArray), l.length - (i + 1) = d → d < m → l[i]? = some p → R_ident_Rise_0 dd Prim.powG N m [] (sl l) (sl l) (i64 l.length) (i64 ((i : Int) + 1)) = some (bl (riseP (some p) (l.drop (i + 1)))) := by
  intro d
  induction d with
  | zero =>
    intro i m p hd hm hp
    obtain ⟨m, rfl⟩ : ∃ k, m = k + 1 := ⟨m - 1, by omega⟩
    rw [R_ident_Rise_0_s]
    have h1 : ¬ ((i : Int) + 1 < (l.length : Int)) := by omega
    have h2 : l.drop (i + 1) = [] := List.drop_of_length_le (by omega)
    simp [X, Y, Z, h1, h2, riseP]
  | succ d ih =>
    intro i m p hd hm hp
    obtain ⟨m, rfl⟩ : ∃ k, m = k + 1 := ⟨m - 1, by omega⟩
    rw [R_ident_Rise_0_s]
    have hi : i + 1 < l.length := by omega
    have h1 : (i : Int) + 1 < (l.length : Int) := by omega
    have h0 : (0 : Int) < (i : Int) + 1 := by omega
    have h2 : l.drop (i + 1) = l[i + 1] :: l.drop (i + 1 + 1) := List.drop_eq_getElem_cons hi
    have h3 : l[i + 1]? = some l[i + 1] := List.getElem?_eq_getElem hi
    have h4 := ih (i + 1) m _ (by omega) (by omega) h3
    push_cast at h4
    rw [h2]
    generalize l[i + 1] = x at h3 h4 ⊢
    have h3' := fun (k : List AV → Out) (u : Tag k) => xi_at (e := fun w => [st w]) (k := k) (u := u) h3
    push_cast at h3'
    have h7 := wrap_succ (show i + 1 < 4611686018427387904 by omega)
    push_cast at h7
    cases h5 : Op.bytesLess p.toList x.toList
    · simp [X, Y, Z, h1, h0, h3', xi_at hp, h5, wrap_nat (show i < 4611686018427387904 by omega), riseP, lt2]
    · simp [X, Y, Z, h1, h0, h3', xi_at hp, h5, wrap_nat (show i < 4611686018427387904 by omega), h7, h4, riseP, lt2]
theorem d_rise (l : List ByteArray) (hw : l.length < 4611686018427387904) : dd i_ident_Rise [sl l] = some (bl (riseP none l)) := by
  refine D_runE (V := v_ident_Rise) (l.length + 2) rfl rfl rfl ?_
  rw [s_ident_Rise]
  cases l with
  | nil =>
    simp only [X, Y, Z]
    rw [R_ident_Rise_0_s]
    simp [X, Y, Z, riseP]
  | cons x l =>
    have h0 : (x :: l)[0]? = some x := rfl
    have h4 := R_rise (x :: l) hw (l.length + 2 + 1) l.length 0 (l.length + 2) x (by simp) (by omega) rfl
    have h1 : (0 : Int) < (((x :: l).length : Nat) : Int) := by simp only [List.length_cons]; omega
    have h3 := fun (k : List AV → Out) (u : Tag k) => xi_at (e := fun w => [st w]) (k := k) (u := u) h0
    have h8 : riseP none (x :: l) = riseP (some x) ((x :: l).drop (0 + 1)) := rfl
    rw [h8]
    have h9 : (x :: l).length = l.length + 1 := rfl
    generalize hL : x :: l = L at h0 h4 h1 h3 h9 ⊢
    simp only [X, Y, Z, List.length_map]
    rw [show L.length + 2 = (l.length + 2) + 1 by omega, R_ident_Rise_0_s]
    have h1n : 0 < L.length := by omega
    have h7 : IntKind.i64.wrap 1 = 1 := by decide
    simp at h3 h4
    simp [X, Y, Z, h1n, h3, h4, h7]
def kindF (ty : Int) : Int := if ty < 0 then 0 else if 16 ≤ ty then 0 else [0, 7, 15, 3, 11, 7, 15, 2, 3, 11, 7, 15, 0, 0, 6, 0].getD ty.toNat 0
theorem d_kind (ty : Int) : dd i_scalar_kind [i64 ty] = some (i64 (kindF ty)) := by
  refine D_runE (V := v_scalar_kind) 1 rfl rfl rfl ?_
  rw [s_scalar_kind]
  by_cases h1 : ty < 0
  · simp [X, Y, Z, h1, kindF]
  · by_cases h2 : 16 ≤ ty
    · simp [X, Y, Z, h1, h2, kindF]
    · have : ty = 0 ∨ ty = 1 ∨ ty = 2 ∨ ty = 3 ∨ ty = 4 ∨ ty = 5 ∨ ty = 6 ∨ ty = 7 ∨ ty = 8 ∨ ty = 9 ∨ ty = 10 ∨ ty = 11 ∨ ty = 12 ∨ ty = 13 ∨ ty = 14 ∨ ty = 15 := by omega
      rcases this with rfl | rfl | rfl | rfl | rfl | rfl | rfl | rfl | rfl | rfl | rfl | rfl | rfl | rfl | rfl | rfl <;> simp [X, Y, Z, kindF]
def andK (m : Int) (ty : Int) : Bool := !decide (IntKind.i64.wrap (BitVec.ofInt 64 (kindF ty) &&& BitVec.ofInt 64 m).toNat = 0)
def tagnumF (n : Int) : Bool := decide (1 ≤ n) && decide (n ≤ 536870911)
theorem d_tagnumber (n : Int) : dd i_tag_number [i64 n] = some (bl (tagnumF n)) := by
  refine D_runE (V := v_tag_number) 1 rfl rfl rfl ?_
  rw [s_tag_number]
  cases h1 : decide (1 ≤ n) <;> simp only [X, Y, Z, tagnumF, h1] <;> rfl
def tagF (n : Int) : Bool := tagnumF n && (decide (n < 19000) || decide (19999 < n))
theorem d_tagField (n : Int) : dd i_tag_Field [i64 n] = some (bl (tagF n)) := by
  refine D_runE (V := v_tag_Field) 1 rfl rfl rfl ?_
  rw [s_tag_Field]
  cases h1 : tagnumF n <;> cases h2 : decide (n < 19000) <;> simp only [X, Y, Z, d_tagnumber, tagF, h1, h2] <;> rfl
theorem d_Number (ty : Int) : dd i_scalar_Number [i64 ty] = some (bl (andK 2 ty)) := by
  refine D_runE (V := v_scalar_Number) 1 rfl rfl rfl ?_
  rw [s_scalar_Number]
  simp only [X, Y, Z, d_kind, andK]
  rfl
def refersF (ty : Int) : Bool := decide (ty = 14) || decide (ty = 15)
theorem d_refers (ty : Int) : dd i_field_refers [i64 ty] = some (bl (refersF ty)) := by
  refine D_runE (V := v_field_refers) 1 rfl rfl rfl ?_
  rw [s_field_refers]
  cases h1 : decide (ty = 14) <;> simp only [X, Y, Z, refersF, h1] <;> rfl
def named2 (f : Fld) (b : Bool) : Bool := b && (Prim.rightF f.Name && (decide (f.One = noS) || Prim.rightF f.One))
theorem j_named (f : Fld) (b : Bool) : J_field_named_0 dd Prim.powG 1 [((1, 0), .var f.cells false)] (.ptr (1, 0) 0) (bl b) = some (bl (named2 f b)) := by
  cases b <;> cases h1 : Prim.rightF f.Name <;> cases h2 : decide (f.One = noS) <;> simp [J_field_named_0, X, Y, Z, d_Right, named2, h1, h2]
def namedF (f : Fld) : Bool := named2 f (bif refersF f.Ty then Prim.rightF f.Ref else decide (f.Ref = noS))
theorem d_named (f : Fld) : dd i_field_named [fl f] = some (bl (namedF f)) := by
  refine D_runE (V := v_field_named) 1 rfl rfl rfl ?_
  rw [s_field_named]
  cases h1 : refersF f.Ty <;> simp [X, Y, Z, d_Right, d_refers, h1, j_named, namedF]
def chk2 (f : Fld) (b : Bool) : Int := bif b then 1 else bif f.Rep && !decide (f.One = noS) then 1 else bif f.Loose && !(f.Rep && andK 2 f.Ty) then 1 else bif !tagF f.Num then 1 else 0
theorem j_Check (f : Fld) (b : Bool) : J_field_Check_0 dd Prim.powG 1 [((1, 0), .var f.cells false)] (.ptr (1, 0) 0) (i64 0) (bl b) = some (i64 (chk2 f b)) := by
  obtain ⟨a1, a2, a3, a4, rep, loose, one⟩ := f
  cases b
  · cases rep <;> cases loose <;> cases h2 : decide (one = noS) <;> cases h3 : andK 2 a3 <;> cases h4 : tagF a2 <;> simp [J_field_Check_0, X, Y, Z, d_Number, d_tagField, chk2, h2, h3, h4]
  · simp [J_field_Check_0, X, Y, Z, chk2]
def checkF (f : Fld) : Int := bif !namedF f then 2 else chk2 f (decide (f.Ty < 1) || decide (15 < f.Ty))
theorem d_fCheck (f : Fld) : dd i_field_Check [fl f] = some (i64 (checkF f)) := by
  refine D_runE (V := v_field_Check) 1 rfl rfl rfl ?_
  rw [s_field_Check]
  cases h1 : namedF f <;> by_cases h2 : f.Ty < 1 <;> simp [X, Y, Z, d_named, h1, h2, checkF, j_Check]
/-- What is refused of the first field that may not be. -/
def fsF : List Fld → Int
  | [] => 0
  | f :: r => if checkF f = 0 then fsF r else checkF f
def fieldsF : List Ms → Int
  | [] => 0
  | m :: r => if fsF m.Fields = 0 then fieldsF r else fsF m.Fields
theorem R_fields0 (s : Sch) (h2 : s.Messages.length < 1000) (N m1 j : Nat) (hj : j < 1000) (x : Ms) (hm : x.Fields.length < 1000) (hN : x.Fields.length < N) : R_schema_fields_0 dd Prim.powG N N m1 [((1, 0), .var [.fsl (s.Enums.map eE), .fsl (s.Messages.map eM)] false), ((4, 0), .var (eM x) false), ((4, 2), .tail 0 7 false false), ((4, 3), .tail 0 1 false false)] (.fsl (x.Fields.map Fld.cells)) (.fsl (s.Messages.map eM)) (i64 s.Messages.length) (i64 j) (i64 x.Fields.length) (i64 0) (.ptr (1, 0) 0) (.ptr (4, 0) 0) = if fsF x.Fields = 0 then R_schema_fields_1 dd Prim.powG N m1 [((1, 0), .var [.fsl (s.Enums.map eE), .fsl (s.Messages.map eM)] false)] (.fsl (s.Messages.map eM)) (i64 s.Messages.length) (i64 ((j : Int) + 1)) (.ptr (1, 0) 0) else some (i64 (fsF x.Fields)) := by
  have h := loop_acc x.Fields (P := fun dn r m => R_schema_fields_0 dd Prim.powG N m m1 [((1, 0), .var [.fsl (s.Enums.map eE), .fsl (s.Messages.map eM)] false), ((4, 0), .var (eM x) false), ((4, 2), .tail 0 7 false false), ((4, 3), .tail 0 1 false false)] (.fsl (x.Fields.map Fld.cells)) (.fsl (s.Messages.map eM)) (i64 s.Messages.length) (i64 j) (i64 x.Fields.length) (i64 dn.length) (.ptr (1, 0) 0) (.ptr (4, 0) 0) = if fsF r = 0 then R_schema_fields_1 dd Prim.powG N m1 [((1, 0), .var [.fsl (s.Enums.map eE), .fsl (s.Messages.map eM)] false)] (.fsl (s.Messages.map eM)) (i64 s.Messages.length) (i64 ((j : Int) + 1)) (.ptr (1, 0) 0) else some (i64 (fsF r))) (by
    intro m
    rw [R_schema_fields_0_s]
    simp [X, Y, Z, fsF, k_schema_fields_1, inK, wrap_succ (show j < 4611686018427387904 by omega)]) (by
    intro dn f r m he hi hx ih
    rw [R_schema_fields_0_s]
    rw [List.length_append] at ih
    push_cast at ih
    by_cases hc : checkF f = 0 <;> simp [X, Y, Z, hi, xi_at hx, Fld.cells, k_schema_fields_0, inK, d_fCheck, hc, fsF, wrap_succ (show dn.length < 4611686018427387904 by omega)]
    simpa using ih) N hN
  exact h
theorem d_fields (s : Sch) (ok : SchOk s) : dd i_schema_fields [sch s] = some (i64 (fieldsF s.Messages)) := by
  refine D_runE (V := v_schema_fields) 1001 rfl rfl rfl ?_
  rw [s_schema_fields]
  have h := loop_acc s.Messages (P := fun dn r m => R_schema_fields_1 dd Prim.powG 1001 m [((1, 0), .var [.fsl (s.Enums.map eE), .fsl (s.Messages.map eM)] false)] (.fsl (s.Messages.map eM)) (i64 s.Messages.length) (i64 dn.length) (.ptr (1, 0) 0) = some (i64 (fieldsF r))) (by
    intro m
    rw [R_schema_fields_1_s]
    simp [X, Y, Z, fieldsF]) (by
    intro dn x r m he hi hx ih
    rw [R_schema_fields_1_s]
    rw [List.length_append] at ih
    push_cast at ih
    have hm := ok.mf x (mem_at hx)
    have h0 := R_fields0 s ok.messages 1001 m dn.length (by have := ok.messages; omega) x hm (by omega)
    simp [X, Y, Z, hi, xi_at hx, eM, k_schema_fields_0, inK]
    rw [h0]
    by_cases hc : fsF x.Fields = 0 <;> simp [hc, fieldsF]
    simpa using ih) 1001 (by have := ok.messages; omega)
  simp [X, Y, Z, k_schema_fields_1, inK]
  exact h
theorem d_Grow (n : Int) (h : 0 ≤ n) (h' : n ≤ 4398046511104) : dd i_slices_Grow_Lstring_string_ [.v (.slice none 0 0), i64 n] = some (.own 1 true []) := D_prim (if_pos ⟨h, h'⟩)
theorem d_Concat (a b : List ByteArray) (ha : a.length < 1000) (hb : b.length < 1000) : dd i_slices_Concat_Lstring_string_ [.fsl [[.fsl (a.map fun w => [st w])], [.fsl (b.map fun w => [st w])]]] = some (.own 1 true ((a ++ b).map fun w => [st w])) := by
  refine D_runE (V := v_slices_Concat_Lstring_string_) 3 rfl rfl rfl ?_
  rw [s_slices_Concat_Lstring_string_]
  have w1 := wrap_nat (show a.length < 4611686018427387904 by omega)
  have w2 := wrap_nat (show a.length + b.length < 4611686018427387904 by omega)
  have w0 : IntKind.i64.wrap 1 = 1 := by decide
  have w3 : IntKind.i64.wrap 2 = 2 := by decide
  push_cast at w2
  have n1 : ¬ ((a.length : Int) < 0) := by omega
  have n2 : ¬ ((a.length : Int) + (b.length : Int) < 0) := by omega
  have hg := d_Grow ((a.length : Int) + (b.length : Int)) (by omega) (by omega)
  simp [X, Y, Z, k_slices_Concat_Lstring_string__0, inK]
  rw [R_slices_Concat_Lstring_string__0_s]
  simp [X, Y, Z, Xi, k_slices_Concat_Lstring_string__0, inK, w1, n1, w0]
  rw [R_slices_Concat_Lstring_string__0_s]
  simp [X, Y, Z, Xi, k_slices_Concat_Lstring_string__0, inK, w2, n2, w0, w3]
  rw [R_slices_Concat_Lstring_string__0_s]
  simp [X, Y, Z, Xi, hg, k_slices_Concat_Lstring_string__1, inK]
  rw [R_slices_Concat_Lstring_string__1_s]
  simp [X, Y, Z, Xi, k_slices_Concat_Lstring_string__1, inK, lenOk_st, w0, show a.length * 16 ≤ 70368744177664 by omega]
  rw [R_slices_Concat_Lstring_string__1_s]
  simp [X, Y, Z, Xi, k_slices_Concat_Lstring_string__1, inK, lenOk_st, w0, w3, show (a.length + b.length) * 16 ≤ 70368744177664 by omega]
  rw [R_slices_Concat_Lstring_string__1_s]
  simp [X, Y, Z, Xi, k_slices_Concat_Lstring_string__1, inK]
/-- A name is there twice. -/
def twice1 (e : En) : Bool := !decide (e.Values.map Vl.Name).Nodup
theorem d_twice1 (e : En) (hw : e.Values.length < 1000) : dd i_schema_twice_1 [aE e] = some (bl (twice1 e)) := by
  refine D_runE (V := v_schema_twice_1) 1 rfl rfl rfl ?_
  rw [s_schema_twice_1]
  have e1 := d_valueNames e hw
  have e2 := d_Once (e.Values.map Vl.Name) (by rw [List.length_map]; omega)
  rw [List.map_map] at e2
  have e3 : ((fun w => [st w]) ∘ Vl.Name) = fun v : Vl => [st v.Name] := rfl
  rw [e3] at e2
  simp [X, Y, Z, e1, e2, twice1]
def twice21 (l : List ByteArray) (f : Fld) : Bool := !decide (f.One = noS) && l.any fun w => decide (f.One = w)
theorem d_twice21 (l : List ByteArray) (hl : l.length < 1000) (f : Fld) : dd i_schema_twice_2_1 [fl f, .fptr [.fsl (l.map eS)]] = some (bl (twice21 l f)) := by
  refine D_runE (V := v_schema_twice_2_1) 1 rfl rfl rfl ?_
  rw [s_schema_twice_2_1]
  have e1 := d_has_S l (by omega) f.One
  cases h : decide (f.One = noS) <;> simp [X, Y, Z, h, e1, twice21]
def twice2 (m : Ms) : Bool := !decide (m.Fields.map Fld.Name).Nodup || m.Fields.any (twice21 (m.Fields.map Fld.Name))
theorem d_twice2 (m : Ms) (hw : m.Fields.length < 1000) : dd i_schema_twice_2 [aM m] = some (bl (twice2 m)) := by
  refine D_runE (V := v_schema_twice_2) 1 rfl rfl rfl ?_
  rw [s_schema_twice_2]
  have e1 := d_fieldNames m hw
  have e2 := d_Once (m.Fields.map Fld.Name) (by rw [List.length_map]; omega)
  rw [List.map_map] at e2
  have e3 : ((fun w => [st w]) ∘ Fld.Name) = fun v : Fld => [st v.Name] := rfl
  rw [e3] at e2
  have e4 := d_cf_F m.Fields (by omega) i_schema_twice_2_1 [.fptr [.fsl ((m.Fields.map Fld.Name).map eS)]] (twice21 (m.Fields.map Fld.Name)) fun f _ => d_twice21 _ (by rw [List.length_map]; omega) f
  rw [List.map_map] at e4
  have e5 : (eS ∘ Fld.Name) = fun v : Fld => [st v.Name] := rfl
  rw [e5] at e4
  cases h : decide (m.Fields.map Fld.Name).Nodup
  · rw [h] at e2
    simp [X, Y, Z, e1, e2, twice2, h]
  · rw [h] at e2
    simp [X, Y, Z, e1, e2, e4, twice2, h]
def twiceF (s : Sch) : Bool := !decide (eNames s ++ mNames s).Nodup || s.Enums.any twice1 || s.Messages.any twice2
theorem d_twice (s : Sch) (ok : SchOk s) : dd i_schema_twice [sch s] = some (bl (twiceF s)) := by
  refine D_runE (V := v_schema_twice) 1 rfl rfl rfl ?_
  rw [s_schema_twice]
  have o1 := ok.enums
  have o2 := ok.messages
  have e0 := d_names s ok.enums ok.messages
  have e1 := d_eachEnum s ok.enums i_schema_twice_1 [] twice1 fun e he => d_twice1 e (ok.en e he)
  have e2 := d_eachMessage s ok.messages i_schema_twice_2 [] twice2 fun e he => d_twice2 e (ok.mf e he)
  have e3 := d_Concat (eNames s) (mNames s) (by rw [List.length_map]; omega) (by rw [List.length_map]; omega)
  have e4 := d_Once (eNames s ++ mNames s) (by rw [List.length_append, List.length_map, List.length_map]; omega)
  unfold twiceF
  generalize eNames s = a at e0 e3 e4 ⊢
  generalize mNames s = b at e0 e3 e4 ⊢
  rw [List.map_append] at e3 e4
  cases h : decide (a ++ b).Nodup <;> cases h1 : s.Enums.any twice1 <;> simp [X, Y, Z, e0, e1, e2, e3, e4, h, h1]
def riseI : Option Int → List Int → Bool
  | _, [] => true
  | none, x :: l => riseI (some x) l
  | some y, x :: l => !decide (x ≤ y) && riseI (some x) l
theorem d_rises (l : List Int) (hw : l.length < 1000) : dd i_schema_rises [.fsl (l.map eI)] = some (bl (riseI none l)) := by
  refine D_runE (V := v_schema_rises) (l.length + 1) rfl rfl rfl ?_
  rw [s_schema_rises]
  have h := loop_acc l (P := fun dn r m => R_schema_rises_0 dd Prim.powG (l.length + 1) m [] (.fsl (l.map eI)) (.fsl (l.map eI)) (i64 l.length) (i64 dn.length) = some (bl (riseI dn.getLast? r))) (by
    intro m
    rw [R_schema_rises_0_s]
    cases l.getLast? <;> simp [X, Y, Z, riseI]) (by
    intro dn x r m he hi hx ih
    rw [R_schema_rises_0_s]
    rw [List.length_append, List.getLast?_concat] at ih
    push_cast at ih
    rcases List.eq_nil_or_concat dn with rfl | ⟨dn, y, rfl⟩
    · have w0 : IntKind.i64.wrap 1 = 1 := by decide
      have hx' : l[0]? = some x := hx
      have hx2 := fun (k : List AV → Out) (u : Tag k) => xi_at (e := eI) (k := k) (u := u) hx'
      have hp : 0 < l.length := by simpa using hi
      simp at hx2 ih
      simp [X, Y, Z, hp, hx2, eI, riseI, w0, ih]
    · rw [List.concat_eq_append] at *
      rw [List.length_append] at hi hx ih
      simp only [List.length_cons, List.length_nil] at hi hx ih
      have hy : l[dn.length]? = some y := by
        rw [he, List.append_assoc, List.getElem?_append_right (Nat.le_refl _), Nat.sub_self]; rfl
      have hx2 := fun (k : List AV → Out) (u : Tag k) => xi_at (e := eI) (k := k) (u := u) hx
      have h1 : ((dn.length : Int) + 1 < l.length) := by omega
      have h0 : (0 : Int) < (dn.length : Int) + 1 := by omega
      have h7 := wrap_succ (show dn.length + 1 < 4611686018427387904 by omega)
      push_cast at h7 hx2 ih
      rw [List.getLast?_concat]
      by_cases h5 : x ≤ y
      · simp [X, Y, Z, h1, h0, hx2, eI, xi_at hy, wrap_nat (show dn.length < 4611686018427387904 by omega), riseI, h5]
      · simp [X, Y, Z, h1, h0, hx2, eI, xi_at hy, wrap_nat (show dn.length < 4611686018427387904 by omega), riseI, h5, h7]
        simpa using ih) (l.length + 1) (by omega)
  simp [X, Y, Z]
  exact h
def hdI (l : List Int) : Int := l.headD 0
/-- An enum's numbers are as they must be. -/
def lsI (l : List Int) : Int := l.getLastD 0
def valL (l : List Int) : Bool := riseI none l && (decide (hdI l = 0) && decide (lsI l ≤ 1048576))
theorem xi_head {α : Type} {e : α → List AV} {xs : List α} {x : α} {k : List AV → Out} {u : Tag k} (h : xs[0]? = some x) : Xi (xs.map e) 0 k u = k (e x) := xi_at (n := 0) h
theorem last_at {l : List Int} (h : l ≠ []) : l[l.length - 1]? = some (lsI l) := by
  rcases List.eq_nil_or_concat l with rfl | ⟨dn, y, rfl⟩
  · exact absurd rfl h
  · unfold lsI
    simp
theorem head_at {l : List Int} (h : l ≠ []) : l[0]? = some (hdI l) := by
  cases l with
  | nil => exact absurd rfl h
  | cons x r => rfl
theorem d_valued (e : En) (hw : e.Values.length < 1000) (hn : e.Values ≠ []) : dd i_schema_valued [aE e] = some (bl (valL (e.Values.map Vl.Num))) := by
  refine D_runE (V := v_schema_valued) (e.Values.length + 1) rfl rfl rfl ?_
  rw [s_schema_valued]
  have hl : e.Values.map Vl.Num ≠ [] := by simpa using hn
  have ev : (e.Values.map fun v => [i64 v.Num]) = (e.Values.map Vl.Num).map eI := by rw [List.map_map]; rfl
  have h := loop_acc e.Values (P := fun dn r m => R_schema_valued_0 dd Prim.powG (e.Values.length + 1) m [((1, 0), .var (eE e) false), ((3, 0), .tail dn.length 1 false false)] (.fsl (e.Values.map eV)) (i64 e.Values.length) (i64 dn.length) (.asl (3, 0) (dn.map fun v => [i64 v.Num])) (.ptr (1, 0) 0) = some (bl (valL (e.Values.map Vl.Num)))) (by
    intro m
    rw [R_schema_valued_0_s]
    have e1 := d_rises (e.Values.map Vl.Num) (by rw [List.length_map]; omega)
    have h0 := head_at hl
    have h9 := last_at hl
    rw [List.length_map] at h9
    have hx0 := fun (k : List AV → Out) (u : Tag k) => xi_head (e := eI) (k := k) (u := u) h0
    have hx9 := fun (k : List AV → Out) (u : Tag k) => xi_at (e := eI) (k := k) (u := u) h9
    have hp : 0 < e.Values.length := List.length_pos_iff.2 hn
    have hc : ((e.Values.length - 1 : Nat) : Int) = (e.Values.length : Int) - 1 := by omega
    rw [hc] at hx9
    have hw9 := wrap_nat (show e.Values.length - 1 < 4611686018427387904 by omega)
    rw [hc] at hw9
    unfold valL
    rw [ev]
    have hlen : (e.Values.map Vl.Num).length = e.Values.length := List.length_map _
    generalize e.Values.map Vl.Num = l at *
    cases q1 : riseI none l <;> by_cases q2 : hdI l = 0 <;> simp [X, Y, Z, e1, q1, q2, hx0, hx9, eI, hlen, hw9]) (by
    intro dn x r m he hi hx ih
    rw [R_schema_valued_0_s]
    rw [List.length_append, List.map_append] at ih
    push_cast at ih
    simp [X, Y, Z, hi, xi_at hx, eV, k_schema_valued_0, inK, show (dn.length + 1) * 8 ≤ 70368744177664 by omega, wrap_succ (show dn.length < 4611686018427387904 by omega)]
    simpa using ih) (e.Values.length + 1) (by omega)
  simp [X, Y, Z, k_schema_valued_0, inK]
  exact h
theorem d_tagRight (n : Int) : dd i_tag_Right [i64 n, i64 0] = some (bl (tagnumF n)) := by
  refine D_runE (V := v_tag_Right) 1 rfl rfl rfl ?_
  rw [s_tag_Right]
  simp [X, Y, Z, J_tag_Right_0, d_tagnumber]
theorem d_numbered1 (n : Int) : dd i_schema_numbered_1 [i64 n] = some (bl (!tagnumF n)) := by
  refine D_runE (V := v_schema_numbered_1) 1 rfl rfl rfl ?_
  rw [s_schema_numbered_1]
  simp [X, Y, Z, d_tagRight]
/-- A message's numbers are as they must be. -/
def numF (m : Ms) : Bool := riseI none (m.Fields.map Fld.Num) && (riseI none m.Barred && !m.Barred.any fun n => !tagnumF n)
theorem d_numbered (e : Ms) (hw : e.Fields.length < 1000) (hb : e.Barred.length < 1000) : dd i_schema_numbered [aM e] = some (bl (numF e)) := by
  refine D_runE (V := v_schema_numbered) (e.Fields.length + 1) rfl rfl rfl ?_
  rw [s_schema_numbered]
  have ev : (e.Fields.map fun v => [i64 v.Num]) = (e.Fields.map Fld.Num).map eI := by rw [List.map_map]; rfl
  have h := loop_acc e.Fields (P := fun dn r m => R_schema_numbered_0 dd Prim.powG (e.Fields.length + 1) m [((1, 0), .var (eM e) false), ((3, 0), .tail dn.length 1 false false)] (.fsl (e.Fields.map Fld.cells)) (.ptr (1, 0) 0) (i64 e.Fields.length) (i64 dn.length) (.asl (3, 0) (dn.map fun v => [i64 v.Num])) = some (bl (numF e))) (by
    intro m
    rw [R_schema_numbered_0_s]
    have e1 := d_rises (e.Fields.map Fld.Num) (by rw [List.length_map]; omega)
    have e2 := d_rises e.Barred hb
    have e3 := d_cf_I e.Barred (by omega) i_schema_numbered_1 [] (fun n => !tagnumF n) fun n _ => d_numbered1 n
    unfold numF
    rw [ev]
    generalize e.Fields.map Fld.Num = l at *
    cases q1 : riseI none l <;> cases q2 : riseI none e.Barred <;> simp [X, Y, Z, e1, e2, e3, q1, q2]) (by
    intro dn x r m he hi hx ih
    rw [R_schema_numbered_0_s]
    rw [List.length_append, List.map_append] at ih
    push_cast at ih
    simp [X, Y, Z, hi, xi_at hx, Fld.cells, k_schema_numbered_0, inK, show (dn.length + 1) * 8 ≤ 70368744177664 by omega, wrap_succ (show dn.length < 4611686018427387904 by omega)]
    simpa using ih) (e.Fields.length + 1) (by omega)
  simp [X, Y, Z, k_schema_numbered_0, inK]
  exact h
theorem d_disordered1 (e : En) (hw : e.Values.length < 1000) (hn : e.Values ≠ []) : dd i_schema_disordered_1 [aE e] = some (bl (!valL (e.Values.map Vl.Num))) := by
  refine D_runE (V := v_schema_disordered_1) 1 rfl rfl rfl ?_
  rw [s_schema_disordered_1]
  simp [X, Y, Z, d_valued e hw hn]
theorem d_disordered2 (e : Ms) (hw : e.Fields.length < 1000) (hb : e.Barred.length < 1000) : dd i_schema_disordered_2 [aM e] = some (bl (!numF e)) := by
  refine D_runE (V := v_schema_disordered_2) 1 rfl rfl rfl ?_
  rw [s_schema_disordered_2]
  simp [X, Y, Z, d_numbered e hw hb]
def disF (s : Sch) : Bool := !riseP none (eNames s) || !riseP none (mNames s).tail || s.Enums.any (fun e => !valL (e.Values.map Vl.Num)) || s.Messages.any (fun m => !numF m)
theorem d_disordered (s : Sch) (ok : SchOk s) (hm : s.Messages ≠ []) (he : ∀ e ∈ s.Enums, e.Values ≠ []) : dd i_schema_disordered [sch s] = some (bl (disF s)) := by
  refine D_runE (V := v_schema_disordered) 1 rfl rfl rfl ?_
  rw [s_schema_disordered]
  have o1 := ok.enums
  have o2 := ok.messages
  have e0 := d_names s ok.enums ok.messages
  have e1 := d_eachEnum s ok.enums i_schema_disordered_1 [] _ fun e h => d_disordered1 e (ok.en e h) (he e h)
  have e2 := d_eachMessage s ok.messages i_schema_disordered_2 [] _ fun e h => d_disordered2 e (ok.mf e h) (ok.mb e h)
  have e3 := d_rise (eNames s) (by rw [List.length_map]; omega)
  have e4 := d_rise (mNames s).tail (by rw [List.length_tail, List.length_map]; omega)
  have hp : 1 ≤ (mNames s).length := by rw [List.length_map]; exact List.length_pos_iff.2 hm
  unfold disF
  generalize eNames s = a at *
  generalize mNames s = b at *
  rw [show sl b.tail = .fsl (b.map fun w => [st w]).tail by rw [← List.map_tail]] at e4
  cases q1 : riseP none a <;> cases q2 : riseP none b.tail <;> cases q3 : s.Enums.any (fun e => !valL (e.Values.map Vl.Num)) <;> rw [q1] at e3 <;> rw [q2] at e4 <;> rw [q3] at e1 <;> simp [X, Y, Z, e0, e1, e2, e3, e4, lenOk_st, slc_lo1 (show 1 ≤ (b.map fun w => [st w]).length by rw [List.length_map]; exact hp)]
abbrev hasI (l : List Int) (n : Int) : Bool := l.any fun e => decide (n = e)
abbrev hasS (l : List ByteArray) (n : ByteArray) : Bool := l.any fun e => decide (n = e)
/-- A field has a number that none may have. -/
theorem d_barred11 (m : Ms) (hb : m.Barred.length < 1000) (f : Fld) : dd i_schema_barred_1_1 [fl f, .fptr (eM m)] = some (bl (hasI m.Barred f.Num)) := by
  refine D_runE (V := v_schema_barred_1_1) 1 rfl rfl rfl ?_
  rw [s_schema_barred_1_1]
  have e1 := d_has_I m.Barred (by omega) f.Num
  simp [X, Y, Z, e1]
def bar1 (m : Ms) : Bool := m.Fields.any fun f => hasI m.Barred f.Num
theorem d_barred1 (m : Ms) (hf : m.Fields.length < 1000) (hb : m.Barred.length < 1000) : dd i_schema_barred_1 [aM m] = some (bl (bar1 m)) := by
  refine D_runE (V := v_schema_barred_1) 1 rfl rfl rfl ?_
  rw [s_schema_barred_1]
  have e1 := d_cf_F m.Fields (by omega) i_schema_barred_1_1 [.fptr (eM m)] _ fun f _ => d_barred11 m hb f
  simp [X, Y, Z, e1, bar1]
def barF (s : Sch) : Bool := s.Messages.any bar1
theorem d_barred (s : Sch) (ok : SchOk s) : dd i_schema_barred [sch s] = some (bl (barF s)) := by
  refine D_runE (V := v_schema_barred) 1 rfl rfl rfl ?_
  rw [s_schema_barred]
  have e2 := d_eachMessage s ok.messages i_schema_barred_1 [] _ fun e h => d_barred1 e (ok.mf e h) (ok.mb e h)
  simp [X, Y, Z, e2, barF]
/-- A field names what is not there. -/
def lost2 (a b : List ByteArray) (f : Fld) : Bool := (decide (f.Ty = 14) && !hasS a f.Ref) || (decide (f.Ty = 15) && !hasS b f.Ref)
theorem d_lost11 (a b : List ByteArray) (ha : a.length < 1000) (hb : b.length < 1000) (f : Fld) : dd i_schema_lost_1_1 [fl f, .fptr [.fsl (a.map eS)], .fptr [.fsl (b.map eS)]] = some (bl (lost2 a b f)) := by
  refine D_runE (V := v_schema_lost_1_1) 1 rfl rfl rfl ?_
  rw [s_schema_lost_1_1]
  have e1 := d_has_S a (by omega) f.Ref
  have e2 := d_has_S b (by omega) f.Ref
  unfold lost2
  cases q1 : hasS a f.Ref <;> cases q2 : hasS b f.Ref <;> cases h1 : decide (f.Ty = 14) <;> cases h2 : decide (f.Ty = 15) <;> rw [show (a.any fun e => decide (f.Ref = e)) = _ from q1] at e1 <;> rw [show (b.any fun e => decide (f.Ref = e)) = _ from q2] at e2 <;> simp [X, Y, Z, e1, e2, h1, h2]
def lost1 (a b : List ByteArray) (m : Ms) : Bool := m.Fields.any (lost2 a b)
theorem d_lost1 (a b : List ByteArray) (ha : a.length < 1000) (hb : b.length < 1000) (m : Ms) (hf : m.Fields.length < 1000) : dd i_schema_lost_1 [aM m, .fptr [.fsl (a.map eS)], .fptr [.fsl (b.map eS)]] = some (bl (lost1 a b m)) := by
  refine D_runE (V := v_schema_lost_1) 1 rfl rfl rfl ?_
  rw [s_schema_lost_1]
  have e1 := d_cf_F m.Fields (by omega) i_schema_lost_1_1 [.fptr [.fsl (a.map eS)], .fptr [.fsl (b.map eS)]] _ fun f _ => d_lost11 a b ha hb f
  simp [X, Y, Z, e1, lost1]
def lostF (s : Sch) : Bool := s.Messages.any (lost1 (eNames s) (mNames s))
theorem d_lost (s : Sch) (ok : SchOk s) : dd i_schema_lost [sch s] = some (bl (lostF s)) := by
  refine D_runE (V := v_schema_lost) 1 rfl rfl rfl ?_
  rw [s_schema_lost]
  have o1 := ok.enums
  have o2 := ok.messages
  have e0 := d_names s ok.enums ok.messages
  have e2 := d_eachMessage s ok.messages i_schema_lost_1 [.fptr [.fsl ((eNames s).map eS)], .fptr [.fsl ((mNames s).map eS)]] _ fun e h => d_lost1 (eNames s) (mNames s) (by rw [List.length_map]; omega) (by rw [List.length_map]; omega) e (ok.mf e h)
  unfold lostF
  generalize eNames s = a at *
  generalize mNames s = b at *
  simp [X, Y, Z, e0, e2]
/-- Which schemas may be. -/
def sCheckF (s : Sch) : Int := bif manyF s then 4 else bif noneF s then 5 else bif misnamedF s then 2 else if fieldsF s.Messages = 0 then (bif twiceF s then 6 else bif disF s then 1 else bif barF s then 6 else bif lostF s then 5 else 0) else fieldsF s.Messages
theorem d_sCheck (s : Sch) (ok : SchOk s) : dd i_schema_Check [sch s] = some (i64 (sCheckF s)) := by
  refine D_runE (V := v_schema_Check) 1 rfl rfl rfl ?_
  rw [s_schema_Check]
  have e1 := d_many s ok
  have e2 := d_none s ok
  have e3 := d_misnamed s ok
  have e4 := d_fields s ok
  have e5 := d_twice s ok
  have e7 := d_barred s ok
  have e8 := d_lost s ok
  unfold sCheckF
  cases q1 : manyF s <;> rw [q1] at e1
  · cases q2 : noneF s <;> rw [q2] at e2
    · unfold noneF at q2
      rw [Bool.or_eq_false_iff] at q2
      have hm : s.Messages ≠ [] := fun h => by rw [h] at q2; simp at q2
      have he : ∀ e ∈ s.Enums, e.Values ≠ [] := fun e h hv => by
        have := List.any_eq_false.1 q2.2 e h
        rw [none1, hv] at this
        simp at this
      have e6 := d_disordered s ok hm he
      cases q3 : misnamedF s <;> rw [q3] at e3
      · by_cases q4 : fieldsF s.Messages = 0
        · rw [q4] at e4
          cases q5 : twiceF s <;> rw [q5] at e5
          · cases q6 : disF s <;> rw [q6] at e6
            · cases q7 : barF s <;> rw [q7] at e7
              · cases q8 : lostF s <;> rw [q8] at e8 <;> simp [X, Y, Z, e1, e2, e3, e4, e5, e6, e7, e8, q4]
              · simp [X, Y, Z, e1, e2, e3, e4, e5, e6, e7, q4]
            · simp [X, Y, Z, e1, e2, e3, e4, e5, e6, q4]
          · simp [X, Y, Z, e1, e2, e3, e4, e5, q4]
        · simp [X, Y, Z, e1, e2, e3, e4, q4]
      · simp [X, Y, Z, e1, e2, e3]
    · simp [X, Y, Z, e1, e2]
  · simp [X, Y, Z, e1]
end Go.Proofs.YtmhdapjmndfkgaaGreatDoor.Sp.B
