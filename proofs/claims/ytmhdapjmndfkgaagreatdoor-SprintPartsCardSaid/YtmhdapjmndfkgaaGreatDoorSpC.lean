/- The reference, first parts. -/
import Derived.Test.YtmhdapjmndfkgaaGreatDoorSpB
namespace Go.Proofs.YtmhdapjmndfkgaaGreatDoor.Sp.B
open Go Go.Proofs.YtmhdapjmndfkgaaGreatDoor.Eng Go.Proofs.YtmhdapjmndfkgaaGreatDoor.Eng.V
set_option linter.unusedSimpArgs false
set_option linter.unusedVariables false
open Sp
open Sp.W (lt2 riseP sl xi_at wrap_succ wrap_nat wrap_pred)
abbrev so (s : Sch) : Key × Ob := ((1, 0), .var [.fsl (s.Enums.map eE), .fsl (s.Messages.map eM)] false)
theorem R_rmany1 (s : Sch) (h1 : s.Enums.length < 1000) (h2 : s.Messages.length < 1000) (N : Nat) (hN : s.Messages.length < N) (b : Bool) : R_ref15_many_1 dd Prim.powG N N [so s] (.ptr (1, 0) 0) (i64 0) (bl b) = some (bl (b || s.Messages.any many2)) := by
  have h := loop_acc s.Messages (P := fun dn r m => ∀ b, R_ref15_many_1 dd Prim.powG N m [so s] (.ptr (1, 0) 0) (i64 dn.length) (bl b) = some (bl (b || r.any many2))) (by
    intro m b
    rw [R_ref15_many_1_s]
    simp [X, Y, Z]) (by
    intro dn x r m he hi hx ih b
    rw [R_ref15_many_1_s]
    rw [List.length_append] at ih
    push_cast at ih
    rw [List.any_cons]
    have hs := wrap_succ (show dn.length < 4611686018427387904 by omega)
    cases b
    · by_cases q1 : (10 : Int) < x.Fields.length
      · rw [show many2 x = true by simp [many2, q1]]
        simp [X, Y, Z, hi, xi_at hx, eM, k_ref15_many_1, q1, hs]
        simpa using ih true
      · have := ih (decide ((8 : Int) < x.Barred.length))
        rw [show many2 x = decide ((8 : Int) < x.Barred.length) by simp [many2, q1]]
        simp [X, Y, Z, hi, xi_at hx, eM, k_ref15_many_1, q1, hs]
        simpa using this
    · simp [X, Y, Z, hi, k_ref15_many_1, hs]
      simpa using ih true) N hN
  exact h b
theorem d_rmany (s : Sch) (ok : SchOk s) : dd i_ref15_many [sch s] = some (bl (manyF s)) := by
  refine D_runE (V := v_ref15_many) 1001 rfl rfl rfl ?_
  rw [s_ref15_many]
  have o1 := ok.enums
  have o2 := ok.messages
  have h := loop_acc s.Enums (P := fun dn r m => ∀ b, R_ref15_many_0 dd Prim.powG 1001 m [so s] (.ptr (1, 0) 0) (i64 dn.length) (bl b) = some (bl (b || r.any many1 || s.Messages.any many2))) (by
    intro m b
    rw [R_ref15_many_0_s]
    have h0 := R_rmany1 s o1 o2 1001 (by omega) b
    simp [X, Y, Z, k_ref15_many_1]
    exact h0) (by
    intro dn x r m he hi hx ih b
    rw [R_ref15_many_0_s]
    rw [List.length_append] at ih
    push_cast at ih
    rw [List.any_cons]
    have hs := wrap_succ (show dn.length < 4611686018427387904 by omega)
    cases b
    · have := ih (decide ((8 : Int) < x.Values.length))
      simp [X, Y, Z, hi, xi_at hx, eE, k_ref15_many_0, hs]
      simpa [many1] using this
    · simp [X, Y, Z, hi, k_ref15_many_0, hs]
      simpa using ih true) 1001 (by omega)
  have h0 := h (decide ((3 : Int) < s.Enums.length) || decide ((6 : Int) < s.Messages.length))
  unfold manyF
  rw [← h0]
  by_cases q : (3 : Int) < s.Enums.length <;> simp [X, Y, Z, k_ref15_many_0, q]
theorem d_rnone (s : Sch) (ok : SchOk s) : dd i_ref15_none [sch s] = some (bl (noneF s)) := by
  refine D_runE (V := v_ref15_none) 1001 rfl rfl rfl ?_
  rw [s_ref15_none]
  have o1 := ok.enums
  have h := loop_acc s.Enums (P := fun dn r m => ∀ b, R_ref15_none_0 dd Prim.powG 1001 m [so s] (.ptr (1, 0) 0) (i64 dn.length) (bl b) = some (bl (b || r.any none1))) (by
    intro m b
    rw [R_ref15_none_0_s]
    simp [X, Y, Z]) (by
    intro dn x r m he hi hx ih b
    rw [R_ref15_none_0_s]
    rw [List.length_append] at ih
    push_cast at ih
    rw [List.any_cons]
    have hs := wrap_succ (show dn.length < 4611686018427387904 by omega)
    cases b
    · have := ih (none1 x)
      have e : decide ((x.Values.length : Int) = 0) = none1 x := by unfold none1; rw [decide_eq_decide]; omega
      by_cases q : x.Values = []
      · have e' : none1 x = true := by simp [none1, q]
        simp [X, Y, Z, hi, xi_at hx, eE, k_ref15_none_0, hs, q, e']
        simpa [e'] using this
      · have e' : none1 x = false := by simp [none1, q]
        simp [X, Y, Z, hi, xi_at hx, eE, k_ref15_none_0, hs, q, e']
        simpa [e'] using this
    · simp [X, Y, Z, hi, k_ref15_none_0, hs]
      simpa using ih true) 1001 (by omega)
  have h0 := h (decide (s.Messages.length = 0))
  unfold noneF
  rw [← h0]
  simp [X, Y, Z, k_ref15_none_0]
theorem byteArr_at {s : ByteArray} {i : Nat} (h : i < s.size) : s[i]? = some s[i] := getElem?_pos s i h
def letB (c : Int) : Bool := (decide (97 ≤ c) && decide (c ≤ 122)) || (decide (65 ≤ c) && decide (c ≤ 90))
theorem d_refLetter (c : Int) : dd i_ref09_Letter [.v (.int .u8 c)] = some (bl (letB c)) := by
  refine D_runE (V := v_ref09_Letter) 1 rfl rfl rfl ?_
  rw [s_ref09_Letter]
  cases h1 : decide (97 ≤ c) <;> cases h2 : decide (c ≤ 122) <;> cases h3 : decide (65 ≤ c) <;> simp only [X, Y, Z, letB, h1, h2, h3] <;> rfl
def wordsL : List ByteArray := Sp.W.wordsB0 ++ (Sp.W.wordsB1 ++ (Sp.W.wordsB2 ++ (Sp.W.wordsB3 ++ Sp.W.wordsB4)))
theorem d_refwords : dd i_ref09_words [] = some (.own 1 true (wordsL.map fun w => [st w])) := D_runE (V := v_ref09_words) 1 rfl rfl rfl (by kernel_rfl)
theorem R1_at (s : ByteArray) (ws : List ByteArray) (hw : ws.length < 4000000) : ∀ (d i m : Nat), ws.length - i = d → d < m → R_ref09_Right_1 dd Prim.powG 100 m [] (st s) (.fsl (ws.map fun w => [st w])) (i64 i) = some (bl (!(ws.drop i).any fun w => decide (w = s))) := by
  intro d
  induction d with
  | zero =>
    intro i m hd hm
    obtain ⟨m, rfl⟩ : ∃ k, m = k + 1 := ⟨m - 1, by omega⟩
    rw [R_ref09_Right_1_s]
    have h1 : ¬ ((i : Int) < (ws.length : Int)) := by omega
    have h2 : ws.drop i = [] := List.drop_of_length_le (by omega)
    simp [X, Y, Z, h1, h2]
  | succ d ih =>
    intro i m hd hm
    obtain ⟨m, rfl⟩ : ∃ k, m = k + 1 := ⟨m - 1, by omega⟩
    rw [R_ref09_Right_1_s]
    have hi : i < ws.length := by omega
    have h1 : (i : Int) < (ws.length : Int) := by omega
    have h2 : ws.drop i = ws[i] :: ws.drop (i + 1) := List.drop_eq_getElem_cons hi
    have h3 : ws[i]? = some ws[i] := List.getElem?_eq_getElem hi
    have h4 := ih (i + 1) m (by omega) (by omega)
    push_cast at h4
    rw [h2]
    generalize ws[i] = x at h3 ⊢
    cases h5 : decide (x = s)
    · simp [X, Y, Z, h1, xi_at h3, h5, wrap_succ (show i < 4611686018427387904 by omega), h4]
    · simp [X, Y, Z, h1, xi_at h3, h5]
def okB (i : Nat) (c : Int) : Bool := letB c || (!((decide (c < 48) || decide (57 < c)) && !decide (c = 95)))
def byB (s : ByteArray) (i : Nat) : Int := ((s[i]?.getD 0).toNat : Int)
def allB (s : ByteArray) : Nat → Nat → Bool
  | 0, _ => true
  | d + 1, i => okB i (byB s i) && allB s d (i + 1)
def notWord (s : ByteArray) : Bool := !wordsL.any fun w => decide (w = s)
theorem R0_at (s : ByteArray) : ∀ (d i m : Nat), s.size - i = d → i ≤ s.size → s.size < 100 → d < m → R_ref09_Right_0 dd Prim.powG 100 m [] (st s) (i64 i) = some (bl (allB s d i && notWord s)) := by
  intro d
  induction d with
  | zero =>
    intro i m hd hi hs hm
    obtain ⟨m, rfl⟩ : ∃ k, m = k + 1 := ⟨m - 1, by omega⟩
    rw [R_ref09_Right_0_s]
    have h1 : ¬ ((i : Int) < (s.size : Int)) := by omega
    have h2 := R1_at s wordsL (by decide) 35 0 100 (by decide) (by omega)
    simp only [Int.natCast_zero, List.drop_zero] at h2
    simp [X, Y, Z, h1, d_refwords, h2, allB, notWord]
  | succ d ih =>
    intro i m hd hi hs hm
    obtain ⟨m, rfl⟩ : ∃ k, m = k + 1 := ⟨m - 1, by omega⟩
    rw [R_ref09_Right_0_s]
    have hl : i < s.size := by omega
    have h1 : (i : Int) < (s.size : Int) := by omega
    have h2 := byteArr_at hl
    have h4 := ih (i + 1) m (by omega) (by omega) hs (by omega)
    push_cast at h4
    have hb : byB s i = ((s[i].toNat : Nat) : Int) := by simp [byB, h2]
    unfold allB
    rw [hb]
    generalize s[i] = c at h2 ⊢
    generalize hc : ((c.toNat : Nat) : Int) = z
    cases h5 : letB z <;> cases h6 : decide (z < 48) <;> cases h7 : decide (57 < z) <;> cases h8 : decide (z = 95) <;>
    simp [X, Y, Z, h1, h2, hc, h5, h6, h7, h8, d_refLetter, okB, wrap_succ (show i < 4611686018427387904 by omega), h4]
def rrightF (s : ByteArray) : Bool := decide (1 ≤ s.size) && (decide (s.size ≤ 12) && (letB (byB s 0) && (allB s s.size 0 && notWord s)))
theorem d_refRight (s : ByteArray) : dd i_ref09_Right [st s] = some (bl (rrightF s)) := by
  refine D_runE (V := v_ref09_Right) 100 rfl rfl rfl ?_
  rw [s_ref09_Right]
  by_cases h1 : 1 ≤ s.size
  · by_cases h2 : s.size ≤ 12
    · have e1 : ¬ ((s.size : Int) < 1) := by omega
      have e2 : ¬ (12 < (s.size : Int)) := by omega
      have h3 := byteArr_at (show 0 < s.size by omega)
      have hb : byB s 0 = ((s[0].toNat : Nat) : Int) := by simp [byB, h3]
      have h4 := R0_at s s.size 0 100 (by omega) (by omega) (by omega) (by omega)
      simp only [Int.natCast_zero] at h4
      unfold rrightF
      rw [hb]
      generalize s[0] = c at h3 ⊢
      generalize hc : ((c.toNat : Nat) : Int) = z
      cases h5 : letB z <;> simp [X, Y, Z, e1, e2, h1, h2, h3, hc, h5, d_refLetter, h4]
    · have e1 : ¬ ((s.size : Int) < 1) := by omega
      have e2 : (12 < (s.size : Int)) := by omega
      simp [X, Y, Z, e1, e2, h1, h2, rrightF]
  · have e1 : ((s.size : Int) < 1) := by omega
    simp [X, Y, Z, e1, h1, rrightF]
theorem letB_eq (c : Int) : Prim.letterB c = letB c := by
  unfold Prim.letterB letB
  rw [Bool.eq_iff_iff]
  simp
theorem okRune_eq {i : Nat} (h : i ≠ 0) (c : Int) : Prim.okRune i c = okB i c := by
  unfold Prim.okRune okB Prim.digitB
  rw [letB_eq]
  cases letB c
  · rw [Bool.eq_iff_iff]
    simp [h]
    try omega
  · rfl
theorem okRune_zero (c : Int) : Prim.okRune 0 c = letB c := by
  unfold Prim.okRune
  rw [letB_eq]
  simp
theorem okRune_high {i : Nat} {c : Int} (h : 128 ≤ c) : Prim.okRune i c = false := by
  have h1 : Prim.letterB c = false := by unfold Prim.letterB; exact decide_eq_false (by omega)
  have h2 : Prim.digitB c = false := by unfold Prim.digitB; exact decide_eq_false (by omega)
  unfold Prim.okRune
  rw [h1, h2]; simp
theorem byB_at {s : ByteArray} {i : Nat} (h : i < s.size) : byB s i = ((s[i]'h).toNat : Int) := by simp [byB, byteArr_at h]
def bytesOk (s : ByteArray) : Nat → Nat → Bool
  | 0, _ => true
  | b + 1, pos => if pos < s.size then Prim.okRune pos (byB s pos) && bytesOk s b (pos + 1) else true
theorem runes_bytes (s : ByteArray) : ∀ b pos, Prim.runesOk s b pos = bytesOk s b pos
  | 0, _ => rfl
  | b + 1, pos => by
    by_cases hp : pos < s.size
    · by_cases ha : (s[pos]'hp).toNat < 128
      · have e := decode_ascii s pos hp ha
        simp only [Prim.runesOk, bytesOk, hp, if_true, e, byB_at hp]
        rw [runes_bytes s b (pos + 1)]
      · have e := (decode_high s pos hp (by omega)).1
        simp only [Prim.runesOk, bytesOk, hp, if_true]
        rw [okRune_high (by omega), okRune_high (by rw [byB_at hp]; omega)]
        rfl
    · simp [Prim.runesOk, bytesOk, hp]
theorem bytes_all (s : ByteArray) : ∀ d i, i ≠ 0 → s.size - i = d → bytesOk s d i = allB s d i
  | 0, _, _, _ => rfl
  | d + 1, i, hi, hd => by
    simp only [bytesOk, allB]
    rw [if_pos (by omega), okRune_eq hi, bytes_all s d (i + 1) (by omega) (by omega)]
theorem size_nil {s : ByteArray} : s.toList = [] ↔ s.size = 0 := by
  rw [ByteArray.toList_eq]
  constructor
  · intro h; have := congrArg List.length h; rw [Array.length_toList] at this; exact this
  · intro h; apply List.eq_nil_of_length_eq_zero; rw [Array.length_toList]; exact h
theorem notWord_eq (s : ByteArray) : (!Sp.W.wordF s) = notWord s := by
  unfold notWord wordsL Sp.W.wordF Sp.W.anyW
  simp only [List.any_append, eq_comm]
theorem right_eq (s : ByteArray) : Prim.rightF s = rrightF s := by
  unfold Prim.rightF Prim.rightO rrightF
  rw [runes_bytes, notWord_eq]
  by_cases h0 : s.size = 0
  · have hn := size_nil.2 h0
    rw [if_pos hn, decide_eq_false (show ¬ 1 ≤ s.size by omega)]
    split <;> rfl
  · have hn : ¬ s.toList = [] := fun h => h0 (size_nil.1 h)
    rw [if_neg hn, decide_eq_true (show 1 ≤ s.size by omega)]
    obtain ⟨d, hd⟩ : ∃ d, s.size = d + 1 := ⟨s.size - 1, by omega⟩
    have e1 : bytesOk s s.size 0 = (letB (byB s 0) && allB s d 1) := by
      rw [hd]
      simp only [bytesOk]
      rw [if_pos (by omega), okRune_zero, bytes_all s d 1 (by omega) (by omega)]
    have e2 : allB s s.size 0 = (okB 0 (byB s 0) && allB s d 1) := by
      rw [hd]
      rfl
    rw [e1, e2]
    by_cases h12 : s.size ≤ 12
    · have : (s.size : Int) ≤ 12 := by omega
      rw [if_pos this, decide_eq_true h12]
      unfold okB
      cases letB (byB s 0) <;> cases allB s d 1 <;> simp
    · have : ¬ (s.size : Int) ≤ 12 := by omega
      rw [if_neg this, decide_eq_false h12]
      split <;> rfl
def rwholeF (ty : Int) : Bool := (decide (1 ≤ ty) && decide (ty ≤ 6)) || (decide (8 ≤ ty) && decide (ty ≤ 11))
theorem d_refWhole (ty : Int) : dd i_ref11_Whole [i64 ty] = some (bl (rwholeF ty)) := by
  refine D_runE (V := v_ref11_Whole) 1 rfl rfl rfl ?_
  rw [s_ref11_Whole]
  cases h1 : decide (1 ≤ ty) <;> cases h2 : decide (ty ≤ 6) <;> cases h3 : decide (8 ≤ ty) <;> simp only [X, Y, Z, rwholeF, h1, h2, h3] <;> rfl
def rnumF (ty : Int) : Bool := rwholeF ty || (decide (ty = 7) || decide (ty = 14))
theorem d_refNumber (ty : Int) : dd i_ref11_Number [i64 ty] = some (bl (rnumF ty)) := by
  refine D_runE (V := v_ref11_Number) 1 rfl rfl rfl ?_
  rw [s_ref11_Number]
  cases h1 : rwholeF ty <;> cases h2 : decide (ty = 7) <;> simp only [X, Y, Z, d_refWhole, rnumF, h1, h2] <;> rfl
theorem num_eq (ty : Int) : andK 2 ty = rnumF ty := by
  by_cases h1 : ty < 0
  · have e1 : kindF ty = 0 := if_pos h1
    unfold andK
    rw [e1]
    have e2 : rnumF ty = false := by
      unfold rnumF rwholeF
      rw [Bool.eq_false_iff]
      simp
      omega
    rw [e2]
    decide
  · by_cases h2 : 16 ≤ ty
    · have e1 : kindF ty = 0 := by unfold kindF; rw [if_neg h1, if_pos h2]
      unfold andK
      rw [e1]
      have e2 : rnumF ty = false := by
        unfold rnumF rwholeF
        rw [Bool.eq_false_iff]
        simp
        omega
      rw [e2]
      decide
    · have : ty = 0 ∨ ty = 1 ∨ ty = 2 ∨ ty = 3 ∨ ty = 4 ∨ ty = 5 ∨ ty = 6 ∨ ty = 7 ∨ ty = 8 ∨ ty = 9 ∨ ty = 10 ∨ ty = 11 ∨ ty = 12 ∨ ty = 13 ∨ ty = 14 ∨ ty = 15 := by omega
      rcases this with rfl | rfl | rfl | rfl | rfl | rfl | rfl | rfl | rfl | rfl | rfl | rfl | rfl | rfl | rfl | rfl <;> decide
theorem d_ref04Field (n : Int) : dd i_ref04_Field [i64 n] = some (bl (tagF n)) := by
  refine D_runE (V := v_ref04_Field) 1 rfl rfl rfl ?_
  rw [s_ref04_Field]
  unfold tagF tagnumF
  cases h1 : decide (1 ≤ n) <;> cases h2 : decide (n ≤ 536870911) <;> cases h3 : decide (n < 19000) <;> simp only [X, Y, Z, h1, h2, h3] <;> rfl
def rchk2 (f : Fld) : Int := bif !tagF f.Num || (decide (f.Ty < 1) || (decide (15 < f.Ty) || (f.Rep && !decide (f.One = noS)))) then 1 else bif f.Loose && (!f.Rep || !rnumF f.Ty) then 1 else 0
theorem j_rCheck (f : Fld) : J_ref14_Check_0 dd Prim.powG 1 [((1, 0), .var f.cells false)] (.ptr (1, 0) 0) = some (i64 (rchk2 f)) := by
  obtain ⟨a1, a2, a3, a4, rep, loose, one⟩ := f
  cases h0 : tagF a2
  · simp [J_ref14_Check_0, X, Y, Z, d_ref04Field, rchk2, h0]
  · by_cases h1 : a3 < 1
    · simp [J_ref14_Check_0, X, Y, Z, d_ref04Field, rchk2, h0, h1]
    · by_cases h2 : 15 < a3
      · simp [J_ref14_Check_0, X, Y, Z, d_ref04Field, rchk2, h0, h1, h2]
      · cases rep <;> cases loose <;> cases h3 : decide (one = noS) <;> cases h4 : rnumF a3 <;> simp [J_ref14_Check_0, X, Y, Z, d_ref04Field, d_refNumber, rchk2, h0, h1, h2, h3, h4]
def rcheckF (f : Fld) : Int := bif !rrightF f.Name || (!decide (f.One = noS) && !rrightF f.One) then 2 else bif refersF f.Ty then (bif !rrightF f.Ref then 2 else rchk2 f) else (bif !decide (f.Ref = noS) then 2 else rchk2 f)
theorem d_rCheck (f : Fld) : dd i_ref14_Check [fl f] = some (i64 (rcheckF f)) := by
  refine D_runE (V := v_ref14_Check) 1 rfl rfl rfl ?_
  rw [s_ref14_Check]
  have hj := j_rCheck f
  cases h1 : rrightF f.Name
  · simp [X, Y, Z, d_refRight, h1, rcheckF]
  · cases h2 : decide (f.One = noS) <;> cases h3 : rrightF f.One <;> cases h4 : decide (f.Ty = 14) <;> cases h5 : decide (f.Ty = 15) <;> cases h6 : rrightF f.Ref <;> cases h7 : decide (f.Ref = noS) <;>
    simp [X, Y, Z, d_refRight, h1, h2, h3, h4, h5, h6, h7, hj, rcheckF, refersF]
theorem check_eq (f : Fld) : checkF f = rcheckF f := by
  unfold checkF rcheckF namedF named2 chk2 rchk2
  simp only [right_eq, num_eq]
  cases rrightF f.Name <;> cases decide (f.One = noS) <;> cases rrightF f.One <;> cases refersF f.Ty <;> cases rrightF f.Ref <;> cases decide (f.Ref = noS) <;> cases tagF f.Num <;> cases decide (f.Ty < 1) <;> cases decide (15 < f.Ty) <;> cases f.Rep <;> cases f.Loose <;> cases rnumF f.Ty <;> rfl
def rwrongF (w : ByteArray) : Bool := !rrightF w
def rmis2 (e : En) : Bool := rwrongF e.Name || e.Values.any fun v => rwrongF v.Name
def rmis3 (m : Ms) : Bool := rwrongF m.Name
theorem R_rtext2 (s : Sch) (h2 : s.Messages.length < 1000) (N : Nat) (hN : s.Messages.length < N) (b : Bool) : R_ref15_text_2 dd Prim.powG N N [so s] (.ptr (1, 0) 0) (i64 0) (bl b) = some (bl (b || s.Messages.any rmis3)) := by
  have h := loop_acc s.Messages (P := fun dn r m => ∀ b, R_ref15_text_2 dd Prim.powG N m [so s] (.ptr (1, 0) 0) (i64 dn.length) (bl b) = some (bl (b || r.any rmis3))) (by
    intro m b
    rw [R_ref15_text_2_s]
    simp [X, Y, Z]) (by
    intro dn x r m he hi hx ih b
    rw [R_ref15_text_2_s]
    rw [List.length_append] at ih
    push_cast at ih
    rw [List.any_cons]
    have hs := wrap_succ (show dn.length < 4611686018427387904 by omega)
    cases b
    · have := ih (rmis3 x)
      simp [X, Y, Z, hi, xi_at hx, eM, k_ref15_text_2, hs, d_refRight]
      simpa [rmis3, rwrongF] using this
    · simp [X, Y, Z, hi, k_ref15_text_2, hs]
      simpa using ih true) N hN
  exact h b
theorem R_rtext0 (s : Sch) (h1 : s.Enums.length < 1000) (N m1 i : Nat) (e : En) (hx : s.Enums[i]? = some e) (hv : e.Values.length < 1000) (hN : e.Values.length < N) (b : Bool) : R_ref15_text_0 dd Prim.powG N N m1 [so s] (i64 i) (.ptr (1, 0) 0) (i64 0) (bl b) = R_ref15_text_1 dd Prim.powG N m1 [so s] (i64 ((i : Int) + 1)) (.ptr (1, 0) 0) (bl (b || e.Values.any fun v => rwrongF v.Name)) := by
  have hi' : i < 1000 := by have := (List.getElem?_eq_some_iff.1 hx).1; omega
  have hs' := wrap_succ (show i < 4611686018427387904 by omega)
  have h := loop_acc e.Values (P := fun dn r m => ∀ b, R_ref15_text_0 dd Prim.powG N m m1 [so s] (i64 i) (.ptr (1, 0) 0) (i64 dn.length) (bl b) = R_ref15_text_1 dd Prim.powG N m1 [so s] (i64 ((i : Int) + 1)) (.ptr (1, 0) 0) (bl (b || r.any fun v => rwrongF v.Name))) (by
    intro m b
    rw [R_ref15_text_0_s]
    simp [X, Y, Z, xi_at hx, eE, k_ref15_text_1, hs']) (by
    intro dn x r m he hi hy ih b
    rw [R_ref15_text_0_s]
    rw [List.length_append] at ih
    push_cast at ih
    rw [List.any_cons]
    have hs := wrap_succ (show dn.length < 4611686018427387904 by omega)
    cases b
    · have := ih (rwrongF x.Name)
      simp [X, Y, Z, hi, xi_at hx, xi_at hy, eE, eV, k_ref15_text_0, hs, d_refRight]
      simpa [rwrongF] using this
    · simp [X, Y, Z, hi, xi_at hx, eE, k_ref15_text_0, hs]
      simpa using ih true) N hN
  exact h b
def rtextF (s : Sch) : Bool := s.Enums.any rmis2 || s.Messages.any rmis3
theorem d_rtext (s : Sch) (ok : SchOk s) : dd i_ref15_text [sch s] = some (bl (rtextF s)) := by
  refine D_runE (V := v_ref15_text) 1001 rfl rfl rfl ?_
  rw [s_ref15_text]
  have o1 := ok.enums
  have o2 := ok.messages
  have h := loop_acc s.Enums (P := fun dn r m => ∀ b, R_ref15_text_1 dd Prim.powG 1001 m [so s] (i64 dn.length) (.ptr (1, 0) 0) (bl b) = some (bl (b || r.any rmis2 || s.Messages.any rmis3))) (by
    intro m b
    rw [R_ref15_text_1_s]
    have h0 := R_rtext2 s o2 1001 (by omega) b
    simp [X, Y, Z, k_ref15_text_2]
    exact h0) (by
    intro dn x r m he hi hx ih b
    rw [R_ref15_text_1_s]
    rw [List.length_append] at ih
    push_cast at ih
    rw [List.any_cons]
    have hv := ok.en x (mem_at hx)
    have h0 := fun b => R_rtext0 s o1 1001 m dn.length x hx hv (by omega) b
    cases b
    · simp [X, Y, Z, hi, xi_at hx, eE, k_ref15_text_0, d_refRight, h0]
      have := ih (rmis2 x)
      simpa [rmis2, rwrongF] using this
    · simp [X, Y, Z, hi, k_ref15_text_0, h0]
      simpa using ih true) 1001 (by omega)
  have h0 := h false
  unfold rtextF
  rw [Bool.false_or] at h0
  simp [X, Y, Z, k_ref15_text_1]
  exact h0
def rfsF : List Fld → Int
  | [] => 0
  | f :: r => if rcheckF f = 0 then rfsF r else rcheckF f
def rfieldsF : List Ms → Int
  | [] => 0
  | m :: r => if rfsF m.Fields = 0 then rfieldsF r else rfsF m.Fields
theorem R_rfields0 (s : Sch) (N m1 i : Nat) (e : Ms) (hx : s.Messages[i]? = some e) (h1 : s.Messages.length < 1000) (hv : e.Fields.length < 1000) (hN : e.Fields.length < N) : R_ref15_fields_0 dd Prim.powG N N m1 [so s] (i64 i) (.ptr (1, 0) 0) (i64 0) = if rfsF e.Fields = 0 then R_ref15_fields_1 dd Prim.powG N m1 [so s] (i64 ((i : Int) + 1)) (.ptr (1, 0) 0) else some (i64 (rfsF e.Fields)) := by
  have hi' : i < 1000 := by have := (List.getElem?_eq_some_iff.1 hx).1; omega
  have hs' := wrap_succ (show i < 4611686018427387904 by omega)
  have h := loop_acc e.Fields (P := fun dn r m => R_ref15_fields_0 dd Prim.powG N m m1 [so s] (i64 i) (.ptr (1, 0) 0) (i64 dn.length) = if rfsF r = 0 then R_ref15_fields_1 dd Prim.powG N m1 [so s] (i64 ((i : Int) + 1)) (.ptr (1, 0) 0) else some (i64 (rfsF r))) (by
    intro m
    rw [R_ref15_fields_0_s]
    simp [X, Y, Z, xi_at hx, eM, k_ref15_fields_1, hs', rfsF]) (by
    intro dn x r m he hi hy ih
    rw [R_ref15_fields_0_s]
    rw [List.length_append] at ih
    push_cast at ih
    have hs := wrap_succ (show dn.length < 4611686018427387904 by omega)
    by_cases hc : rcheckF x = 0 <;> simp [X, Y, Z, hi, xi_at hx, xi_at hy, eM, Fld.cells, k_ref15_fields_0, hs, d_rCheck, hc, rfsF]
    simpa using ih) N hN
  exact h
theorem d_rfields (s : Sch) (ok : SchOk s) : dd i_ref15_fields [sch s] = some (i64 (rfieldsF s.Messages)) := by
  refine D_runE (V := v_ref15_fields) 1001 rfl rfl rfl ?_
  rw [s_ref15_fields]
  have o2 := ok.messages
  have h := loop_acc s.Messages (P := fun dn r m => R_ref15_fields_1 dd Prim.powG 1001 m [so s] (i64 dn.length) (.ptr (1, 0) 0) = some (i64 (rfieldsF r))) (by
    intro m
    rw [R_ref15_fields_1_s]
    simp [X, Y, Z, rfieldsF]) (by
    intro dn x r m he hi hx ih
    rw [R_ref15_fields_1_s]
    rw [List.length_append] at ih
    push_cast at ih
    have hm := ok.mf x (mem_at hx)
    have h0 := R_rfields0 s 1001 m dn.length x hx o2 hm (by omega)
    simp [X, Y, Z, hi, k_ref15_fields_0]
    rw [h0]
    by_cases hc : rfsF x.Fields = 0 <;> simp [hc, rfieldsF]
    simpa using ih) 1001 (by omega)
  simp [X, Y, Z, k_ref15_fields_1]
  exact h
end Go.Proofs.YtmhdapjmndfkgaaGreatDoor.Sp.B
