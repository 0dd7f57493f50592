/- Texts tell schemas apart. -/
import Derived.Test.YtmhdapjmndfkgaaGreatDoorSpK
namespace Go.Proofs.YtmhdapjmndfkgaaGreatDoor.Sp.B
open Go Go.Proofs.YtmhdapjmndfkgaaGreatDoor.Eng Go.Proofs.YtmhdapjmndfkgaaGreatDoor.Eng.V
set_option linter.unusedSimpArgs false
set_option linter.unusedVariables false
open Sp
open Sp.W (lt2 riseP sl xi_at wrap_succ wrap_nat wrap_pred)
/-! texts tell schemas apart -/
theorem cut_eq {α : Type} [DecidableEq α] {c : α} : ∀ {x y r r' : List α}, x ++ c :: r = y ++ c :: r' → c ∉ x → c ∉ y → x = y ∧ r = r'
  | [], [], r, r', h, _, _ => by simpa using h
  | [], b :: y, r, r', h, _, hy => by
    simp only [List.nil_append, List.cons_append, List.cons.injEq] at h
    exact absurd (h.1 ▸ List.mem_cons_self) hy
  | a :: x, [], r, r', h, hx, _ => by
    simp only [List.nil_append, List.cons_append, List.cons.injEq] at h
    exact absurd (h.1 ▸ List.mem_cons_self) hx
  | a :: x, b :: y, r, r', h, hx, hy => by
    simp only [List.cons_append, List.cons.injEq] at h
    obtain ⟨h1, h2⟩ := cut_eq h.2 (fun hc => hx (List.mem_cons_of_mem _ hc)) (fun hc => hy (List.mem_cons_of_mem _ hc))
    exact ⟨by rw [h.1, h1], h2⟩
/-- Pieces, each closed by one sign, tell the pieces. -/
theorem pieces_eq {α : Type} [DecidableEq α] (c : α) : ∀ {l m : List (List α)}, l.flatMap (fun w => w ++ [c]) = m.flatMap (fun w => w ++ [c]) → (∀ w ∈ l, c ∉ w) → (∀ w ∈ m, c ∉ w) → l = m
  | [], [], _, _, _ => rfl
  | [], w :: m, h, _, _ => by simp at h
  | w :: l, [], h, _, _ => by simp at h
  | w :: l, v :: m, h, hl, hm => by
    simp only [List.flatMap_cons, List.append_assoc, List.singleton_append] at h
    obtain ⟨h1, h2⟩ := cut_eq h (hl w List.mem_cons_self) (hm v List.mem_cons_self)
    rw [h1, pieces_eq c h2 (fun w hw => hl w (List.mem_cons_of_mem _ hw)) fun w hw => hm w (List.mem_cons_of_mem _ hw)]
theorem map_inj_on {α β : Type} (f : α → β) : ∀ {l m : List α}, l.map f = m.map f → (∀ x ∈ l, ∀ y ∈ m, f x = f y → x = y) → l = m
  | [], [], _, _ => rfl
  | [], _ :: _, h, _ => by simp at h
  | _ :: _, [], h, _ => by simp at h
  | x :: l, y :: m, h, hi => by
    simp only [List.map_cons, List.cons.injEq] at h
    rw [hi x List.mem_cons_self y List.mem_cons_self h.1, map_inj_on f h.2 fun x hx y hy => hi x (List.mem_cons_of_mem _ hx) y (List.mem_cons_of_mem _ hy)]
theorem split_eq {α : Type} (p : α → Bool) : ∀ {a b c d : List α}, a ++ b = c ++ d → (∀ x ∈ a, p x = true) → (∀ x ∈ b, p x = false) → (∀ x ∈ c, p x = true) → (∀ x ∈ d, p x = false) → a = c ∧ b = d
  | [], b, [], d, h, _, _, _, _ => ⟨rfl, by simpa using h⟩
  | [], b, y :: c, d, h, _, hb, hc, _ => by
    have h1 := hb y (by have : y ∈ [] ++ b := by rw [h]; simp
                        simpa using this)
    rw [hc y List.mem_cons_self] at h1
    cases h1
  | x :: a, b, [], d, h, ha, _, _, hd => by
    have h1 := hd x (by have : x ∈ [] ++ d := by rw [← h]; simp
                        simpa using this)
    rw [ha x List.mem_cons_self] at h1
    cases h1
  | x :: a, b, y :: c, d, h, ha, hb, hc, hd => by
    simp only [List.cons_append, List.cons.injEq] at h
    obtain ⟨h1, h2⟩ := split_eq p h.2 (fun x hx => ha x (List.mem_cons_of_mem _ hx)) hb (fun x hx => hc x (List.mem_cons_of_mem _ hx)) hd
    exact ⟨by rw [h.1, h1], h2⟩
/-! signs in names and digits -/
theorem allB_at (s : ByteArray) : ∀ (d i : Nat), allB s d i = true → ∀ j, i ≤ j → j < i + d → okB j (byB s j) = true
  | 0, i, _, j, h1, h2 => by omega
  | d + 1, i, h, j, h1, h2 => by
    unfold allB at h
    rw [Bool.and_eq_true] at h
    by_cases hj : j = i
    · subst hj; exact h.1
    · exact allB_at s d (i + 1) h.2 j (by omega) (by omega)
theorem okB_big (i : Nat) (c : Int) (h : okB i c = true) : 48 ≤ c := by
  unfold okB letB at h
  simp at h
  omega
theorem okB_not (i : Nat) (c : Int) (h : okB i c = true) : c ≠ 59 := by
  unfold okB letB at h
  simp at h
  omega
theorem right_big (s : ByteArray) (h : rrightF s = true) : (∀ b ∈ s.data.toList, 48 ≤ b.toNat ∧ b.toNat ≠ 59) ∧ s ≠ noS ∧ wordsL.all (fun w => !decide (w = s)) = true := by
  unfold rrightF at h
  simp only [Bool.and_eq_true, decide_eq_true_eq] at h
  obtain ⟨h1, h2, h3, h4, h5⟩ := h
  refine ⟨fun b hb => ?_, fun e => ?_, ?_⟩
  · obtain ⟨i, hi, rfl⟩ := List.getElem_of_mem hb
    have hi' : i < s.size := hi
    have h6 := allB_at s s.size 0 h4 i (by omega) (by omega)
    have e : byB s i = ((s.data.toList[i].toNat : Nat) : Int) := by
      unfold byB
      rw [show s[i]? = some s[i] from byteArr_at hi']
      rfl
    have h7 := okB_big i _ h6
    have h8 := okB_not i _ h6
    rw [e] at h7 h8
    omega
  · subst e
    simp [ByteArray.size] at h1
  · unfold notWord at h5
    rw [List.all_eq_not_any_not]
    simpa using h5
def decV (l : List UInt8) : Nat := l.foldl (fun a c => 10 * a + (c.toNat - 48)) 0
theorem decV_dec (u : Nat) : decV (Lib.decDigits u) = u := by
  induction u using Nat.strongRecOn with
  | _ u ih =>
    rw [Lib.decDigits]
    by_cases h : u < 10
    · rw [dif_pos h]
      simp only [decV, List.foldl_cons, List.foldl_nil]
      simp
      omega
    · rw [dif_neg h]
      have h1 := ih (u / 10) (by omega)
      unfold decV at h1 ⊢
      rw [List.foldl_append, h1]
      simp only [List.foldl_cons, List.foldl_nil]
      simp
      omega
theorem dec_digit (u : Nat) : ∀ b ∈ Lib.decDigits u, 48 ≤ b.toNat ∧ b.toNat ≤ 57 := by
  induction u using Nat.strongRecOn with
  | _ u ih =>
    rw [Lib.decDigits]
    by_cases h : u < 10
    · rw [dif_pos h]
      intro b hb
      rw [List.mem_singleton] at hb
      subst hb
      simp
      omega
    · rw [dif_neg h]
      intro b hb
      rcases List.mem_append.1 hb with hb | hb
      · exact ih (u / 10) (by omega) b hb
      · rw [List.mem_singleton] at hb
        subst hb
        simp
        omega
theorem dgt_inj {a b : Int} (ha : 0 ≤ a) (ha' : a < 18446744073709551616) (hb : 0 ≤ b) (hb' : b < 18446744073709551616) (h : (dgt a).data.toList = (dgt b).data.toList) : a = b := by
  have key : ∀ n : Int, 0 ≤ n → n < 18446744073709551616 → decV (dgt n).data.toList = n.toNat := by
    intro n h0 h1
    have e : (dgt n).data.toList = Lib.decDigits n.toNat := by
      have : ¬ (0 : Int) > n := by omega
      have hw : IntKind.u64.wrap n = n := by rw [IntKind.wrap_u64]; omega
      simp [dgt, digF, digU, this, hw]
    rw [e, decV_dec]
  have h1 := key a ha ha'
  rw [h, key b hb hb'] at h1
  omega
/-- What a schema that may be has. -/
structure Good (s : Sch) : Prop where
  en : ∀ e ∈ s.Enums, rrightF e.Name = true ∧ ∀ v ∈ e.Values, rrightF v.Name = true ∧ 0 ≤ v.Num ∧ v.Num ≤ 1048576
  ms : ∀ m ∈ s.Messages, rrightF m.Name = true ∧ (∀ f ∈ m.Fields, rcheckF f = 0) ∧ ∀ n ∈ m.Barred, 1 ≤ n ∧ n ≤ 536870911
  nod : (eNames s ++ mNames s).Nodup
  refs : ∀ m ∈ s.Messages, ∀ f ∈ m.Fields, (f.Ty = 14 → f.Ref ∈ eNames s) ∧ (f.Ty = 15 → f.Ref ∈ mNames s)
  root : s.Messages ≠ []
theorem riseI_gt : ∀ (l : List Int) (y : Int), riseI (some y) l = true → ∀ x ∈ l, y < x ∧ x ≤ l.getLastD y
  | [], _, _, x, hx => by cases hx
  | z :: l, y, h, x, hx => by
    unfold riseI at h
    rw [Bool.and_eq_true] at h
    have hz : y < z := by have := h.1; simp at this; omega
    have h2 := riseI_gt l z h.2
    have hl : (z :: l).getLastD y = l.getLastD z := by cases l <;> simp [List.getLastD]
    rw [hl]
    have hzl : z ≤ l.getLastD z := by
      cases l with
      | nil => simp [List.getLastD]
      | cons w r => have := h2 w List.mem_cons_self; omega
    rcases List.mem_cons.1 hx with rfl | hx
    · exact ⟨hz, hzl⟩
    · have := h2 x hx; omega
theorem riseI_bd (l : List Int) (h : riseI none l = true) : ∀ x ∈ l, hdI l ≤ x ∧ x ≤ lsI l := by
  cases l with
  | nil => intro x hx; cases hx
  | cons y l =>
    intro x hx
    unfold riseI at h
    have h2 := riseI_gt l y h
    have hl : lsI (y :: l) = l.getLastD y := by cases l <;> simp [lsI, List.getLastD]
    have hh : hdI (y :: l) = y := rfl
    have hyl : y ≤ l.getLastD y := by
      cases l with
      | nil => simp [List.getLastD]
      | cons w r => have := h2 w List.mem_cons_self; omega
    rw [hl, hh]
    rcases List.mem_cons.1 hx with rfl | hx
    · exact ⟨Int.le_refl _, hyl⟩
    · have := h2 x hx; omega
theorem rfs_all : ∀ (l : List Fld), rfsF l = 0 → ∀ f ∈ l, rcheckF f = 0
  | [], _, f, h => by cases h
  | g :: r, h, f, hf => by
    unfold rfsF at h
    by_cases h0 : rcheckF g = 0
    · rw [if_pos h0] at h
      rcases List.mem_cons.1 hf with rfl | hf
      · exact h0
      · exact rfs_all r h f hf
    · rw [if_neg h0] at h; exact absurd h h0
theorem rfields_all : ∀ (l : List Ms), rfieldsF l = 0 → ∀ m ∈ l, ∀ f ∈ m.Fields, rcheckF f = 0
  | [], _, f, h => by cases h
  | g :: r, h, f, hf => by
    unfold rfieldsF at h
    by_cases h0 : rfsF g.Fields = 0
    · rw [if_pos h0] at h
      rcases List.mem_cons.1 hf with rfl | hf
      · exact rfs_all _ h0
      · exact rfields_all r h f hf
    · rw [if_neg h0] at h; exact absurd h h0
theorem good_of (s : Sch) (h : rCheckF s = 0) : Good s := by
  unfold rCheckF at h
  cases h1 : manyF s <;> rw [h1] at h
  case true => simp at h
  cases h2 : noneF s <;> rw [h2] at h
  case true => simp at h
  cases h3 : rtextF s <;> rw [h3] at h
  case true => simp at h
  simp only [cond_false] at h
  by_cases h4 : rfieldsF s.Messages = 0
  case neg => rw [if_neg h4] at h; exact absurd h h4
  rw [if_pos h4] at h
  cases h5 : rtwiceF s <;> rw [h5] at h
  case true => simp at h
  cases h6 : rorderF s <;> rw [h6] at h
  case true => simp at h
  cases h7 : barF s <;> rw [h7] at h
  case true => simp at h
  cases h8 : (s.Messages.any fun m => m.Fields.any (rlost2 s)) <;> rw [h8] at h
  case true => simp at h
  unfold noneF at h2
  unfold rtextF at h3
  unfold rtwiceF at h5
  unfold rorderF at h6
  simp only [Bool.or_eq_false_iff] at h2 h3 h5 h6
  have nodup : (eNames s ++ mNames s).Nodup := by have := h5.2; simpa using this
  refine ⟨fun e he => ?_, fun m hm => ⟨?_, rfields_all _ h4 m hm, ?_⟩, nodup, fun m hm f hf => ?_, ?_⟩
  · have a1 := List.any_eq_false.1 h3.1 e he
    have a2 := List.any_eq_false.1 h6.1.1.1 e he
    unfold rmis2 rwrongF at a1
    simp only [Bool.or_eq_true, not_or, Bool.not_eq_true, Bool.not_eq_false'] at a1
    simp only [Bool.not_eq_true, Bool.not_eq_false'] at a2
    unfold valL at a2
    simp only [Bool.and_eq_true, decide_eq_true_eq] at a2
    refine ⟨a1.1, fun v hv => ⟨?_, ?_⟩⟩
    · have := List.any_eq_false.1 a1.2 v hv
      simpa using this
    · have := riseI_bd _ a2.1 v.Num (List.mem_map_of_mem hv)
      omega
  · have a1 := List.any_eq_false.1 h3.2 m hm
    unfold rmis3 rwrongF at a1
    simpa using a1
  · intro n hn
    have a1 := List.any_eq_false.1 h6.1.2 m hm
    unfold rnumM at a1
    simp only [Bool.or_eq_true, not_or, Bool.not_eq_true, Bool.not_eq_false'] at a1
    have a2 := riseI_bd _ a1.2.1 n hn
    have a3 : (0 : Int) < m.Barred.length := by have := List.length_pos_iff.2 (List.ne_nil_of_mem hn); omega
    have a4 := a1.2.2
    rw [decide_eq_true a3, Bool.true_and, Bool.or_eq_false_iff] at a4
    have b1 := a4.1
    have b2 := a4.2
    simp only [decide_eq_false_iff_not] at b1 b2
    omega
  · have a1 := List.any_eq_false.1 h8 m hm
    have a2 := List.any_eq_false.1 (by simpa using a1) f hf
    unfold rlost2 at a2
    rw [lt_any, lt_any] at a2
    simp only [Bool.or_eq_true, not_or, Bool.and_eq_true, not_and, decide_eq_true_eq, Bool.not_eq_true, Bool.not_eq_false'] at a2
    refine ⟨fun h => ?_, fun h => ?_⟩
    · obtain ⟨e, he, hn⟩ := List.any_eq_true.1 (a2.1 h)
      rw [of_decide_eq_true hn]
      exact List.mem_map_of_mem he
    · obtain ⟨e, he, hn⟩ := List.any_eq_true.1 (a2.2 h)
      rw [of_decide_eq_true hn]
      exact List.mem_map_of_mem he
  · intro e
    have := h2.1
    rw [e] at this
    simp at this
/-! a schema's text as lines -/
def vline (v : Vl) : List UInt8 := cat [tInd, v.Name, tEq, dgt v.Num, tSemi]
def hdE (e : En) : List UInt8 := cat [tEnum, e.Name, tOpen]
def hdM (m : Ms) : List UInt8 := cat [tMsg, m.Name, tOpen]
def brL (l : List Int) : List (List UInt8) := if l = [] then [] else [cat [tInd, tRes, bsL (dJ l), tSemi]]
def fline (f : Fld) : List UInt8 := cat [tInd, oneB f, textF f]
def bE2 (e : En) : List UInt8 × List (List UInt8) := (hdE e, e.Values.map vline)
def bM2 (m : Ms) : List UInt8 × List (List UInt8) := (hdM m, brL m.Barred ++ m.Fields.map fline)
def blk (p : List UInt8 × List (List UInt8)) : List (List UInt8) := p.1 :: (p.2 ++ [[125]])
theorem flat_map {α β γ : Type} (f : α → β) (g : β → List γ) (l : List α) : (l.map f).flatMap g = l.flatMap fun x => g (f x) := by rw [List.flatMap_map]
theorem vlnL_fn : vlnL = fun x => vline x ++ [10] := rfl
theorem fldL_fn : fldL = fun x => fline x ++ [10] := rfl
theorem enumL_blk (e : En) : enumL e = (blk (bE2 e)).flatMap (fun w => w ++ [10]) := by
  unfold enumL blk bE2
  rw [vlnL_fn]
  simp only [List.flatMap_cons, List.flatMap_append, List.flatMap_nil, flat_map, List.append_nil, lnF, List.append_assoc]
  rfl
theorem msgL_blk (m : Ms) : msgL m = (blk (bM2 m)).flatMap (fun w => w ++ [10]) := by
  unfold msgL blk bM2 barL brL
  rw [fldL_fn]
  by_cases h : m.Barred = []
  · simp only [if_pos h, List.flatMap_cons, List.flatMap_append, List.flatMap_nil, flat_map, List.append_nil, List.nil_append, lnF, List.append_assoc]
    rfl
  · simp only [if_neg h, List.flatMap_cons, List.flatMap_append, List.flatMap_nil, flat_map, List.append_nil, joinB_dJ, lnF, List.append_assoc]
    rfl
theorem flatMap_congr' {α β : Type} {f g : α → List β} (h : ∀ x, f x = g x) (l : List α) : l.flatMap f = l.flatMap g := by rw [funext h]
theorem textL_blk (s : Sch) : textL s = ((s.Enums.map bE2 ++ s.Messages.map bM2).flatMap blk).flatMap (fun w => w ++ [10]) := by
  unfold textL
  rw [List.flatMap_append, List.flatMap_append, flat_map, flat_map, List.flatMap_assoc, List.flatMap_assoc]
  rw [flatMap_congr' enumL_blk, flatMap_congr' msgL_blk]
/-- Blocks tell themselves apart. -/
theorem blks_eq : ∀ {l m : List (List UInt8 × List (List UInt8))}, l.flatMap blk = m.flatMap blk → (∀ p ∈ l, [125] ∉ p.2) → (∀ p ∈ m, [125] ∉ p.2) → l = m
  | [], [], _, _, _ => rfl
  | [], p :: m, h, _, _ => by simp [blk] at h
  | p :: l, [], h, _, _ => by simp [blk] at h
  | p :: l, q :: m, h, hl, hm => by
    simp only [List.flatMap_cons, blk, List.cons_append, List.append_assoc, List.singleton_append, List.cons.injEq] at h
    obtain ⟨h0, h⟩ := h
    obtain ⟨h1, h2⟩ := cut_eq h (hl p List.mem_cons_self) (hm q List.mem_cons_self)
    rw [show p = q from Prod.ext h0 h1, blks_eq h2 (fun p hp => hl p (List.mem_cons_of_mem _ hp)) fun p hp => hm p (List.mem_cons_of_mem _ hp)]
/-! signs -/
abbrev noC (c : UInt8) (l : List UInt8) : Prop := c ∉ l
theorem right_no (s : ByteArray) (h : rrightF s = true) (c : UInt8) (hc : c.toNat < 48 ∨ c.toNat = 59) : c ∉ s.data.toList := fun hm => by
  have := (right_big s h).1 c hm
  omega
theorem dgt_e (n : Int) : (dgt n).data.toList = Lib.decDigits (IntKind.u64.wrap (if 0 > n then 0 else n)).toNat := by simp [dgt, digF, digU]
theorem dgt_no (n : Int) (c : UInt8) (hc : c.toNat < 48 ∨ 57 < c.toNat) : c ∉ (dgt n).data.toList := fun hm => by
  rw [dgt_e] at hm
  have := dec_digit _ c hm
  omega
theorem cat_no (c : UInt8) (l : List ByteArray) (h : ∀ s ∈ l, c ∉ s.data.toList) : c ∉ cat l := by
  unfold cat
  rw [List.mem_flatMap]
  rintro ⟨s, hs, hc⟩
  exact h s hs hc
theorem vline_no (v : Vl) (h : rrightF v.Name = true) : 10 ∉ vline v := by
  refine cat_no _ _ fun s hs => ?_
  simp only [List.mem_cons, List.not_mem_nil, or_false] at hs
  rcases hs with rfl | rfl | rfl | rfl | rfl
  · decide
  · exact right_no _ h _ (.inl (by decide))
  · decide
  · exact dgt_no _ _ (.inl (by decide))
  · decide
theorem vline_inj (v w : Vl) (hv : rrightF v.Name = true ∧ 0 ≤ v.Num ∧ v.Num ≤ 1048576) (hw : rrightF w.Name = true ∧ 0 ≤ w.Num ∧ w.Num ≤ 1048576) (h : vline v = vline w) : v = w := by
  unfold vline at h
  simp only [cat_cons, cat_nil, tInd, tEq, tSemi, List.append_nil, List.cons_append, List.nil_append, List.cons.injEq, true_and] at h
  obtain ⟨h1, h2⟩ := cut_eq h (right_no _ hv.1 32 (.inl (by decide))) (right_no _ hw.1 32 (.inl (by decide)))
  simp only [List.cons.injEq, true_and] at h2
  have h3 := List.append_cancel_right h2
  have h4 := dgt_inj hv.2.1 (by omega) hw.2.1 (by omega) h3
  cases v; cases w
  simp only at h1 h4
  subst h4
  rw [show (_ : ByteArray) = _ from ByteArray.ext (Array.ext' h1)]
theorem bE2_inj (e g : En) (he : rrightF e.Name = true ∧ ∀ v ∈ e.Values, rrightF v.Name = true ∧ 0 ≤ v.Num ∧ v.Num ≤ 1048576) (hg : rrightF g.Name = true ∧ ∀ v ∈ g.Values, rrightF v.Name = true ∧ 0 ≤ v.Num ∧ v.Num ≤ 1048576) (h : bE2 e = bE2 g) : e = g := by
  unfold bE2 hdE at h
  simp only [Prod.mk.injEq, cat_cons, cat_nil, List.append_nil] at h
  have h1 := List.append_cancel_right (List.append_cancel_left h.1)
  have h2 := map_inj_on vline h.2 fun v hv w hw => vline_inj v w (he.2 v hv) (hg.2 w hw)
  cases e; cases g
  simp only at h1 h2
  subst h2
  rw [show (_ : ByteArray) = _ from ByteArray.ext (Array.ext' h1)]
/-! fields -/
def tyB (f : Fld) : ByteArray := bif decide (f.Ref = noS) then wordT f.Ty else f.Ref
def ahW (f : Fld) : List (List UInt8) := bif f.Loose then [[108, 111, 111, 115, 101]] else bif f.Rep then [[114, 101, 112, 101, 97, 116, 101, 100]] else []
def oneW (f : Fld) : List (List UInt8) := bif decide (f.One = noS) then [] else [[111, 110, 101, 111, 102], f.One.data.toList]
def fw (f : Fld) : List (List UInt8) := oneW f ++ (ahW f ++ [(tyB f).data.toList, f.Name.data.toList, [61], (digF (IntKind.u64.wrap f.Num) false).data.toList ++ [59]])
theorem fline_fw (f : Fld) (h : rcheckF f = 0) : fline f ++ [32] = 32 :: 32 :: (fw f).flatMap (fun w => w ++ [32]) := by
  unfold fline textF textB oneB
  rw [check_eq, if_pos h]
  unfold fw oneW ahW aheadF tyB
  cases decide (f.One = noS) <;> cases f.Loose <;> cases f.Rep <;> simp [cat, tInd, tOne, ByteArray.data_append, List.append_assoc]
structure FOk (f : Fld) : Prop where
  nm : rrightF f.Name = true
  one : f.One = noS ∨ rrightF f.One = true
  ty : 1 ≤ f.Ty ∧ f.Ty ≤ 15
  num : 1 ≤ f.Num ∧ f.Num ≤ 536870911
  ref : (f.Ty = 14 ∨ f.Ty = 15) ∧ rrightF f.Ref = true ∨ f.Ty ≠ 14 ∧ f.Ty ≠ 15 ∧ f.Ref = noS
  ls : f.Loose = true → f.Rep = true
theorem fok_of (f : Fld) (h : rcheckF f = 0) : FOk f := by
  unfold rcheckF at h
  cases h1 : (!rrightF f.Name || (!decide (f.One = noS) && !rrightF f.One)) <;> rw [h1] at h
  case true => simp at h
  simp only [cond_false] at h
  simp only [Bool.or_eq_false_iff, Bool.not_eq_false', Bool.and_eq_false_iff, decide_eq_true_eq] at h1
  have h2 : rchk2 f = 0 ∧ ((f.Ty = 14 ∨ f.Ty = 15) ∧ rrightF f.Ref = true ∨ f.Ty ≠ 14 ∧ f.Ty ≠ 15 ∧ f.Ref = noS) := by
    cases h3 : refersF f.Ty <;> rw [h3] at h <;> unfold refersF at h3
    · simp only [Bool.or_eq_false_iff, decide_eq_false_iff_not] at h3
      by_cases h4 : f.Ref = noS
      · rw [decide_eq_true h4] at h
        exact ⟨h, .inr ⟨h3.1, h3.2, h4⟩⟩
      · rw [decide_eq_false h4] at h
        simp at h
    · simp only [Bool.or_eq_true, decide_eq_true_eq] at h3
      cases h4 : rrightF f.Ref <;> rw [h4] at h
      · simp at h
      · exact ⟨h, .inl ⟨h3, rfl⟩⟩
  obtain ⟨h3, h4⟩ := h2
  unfold rchk2 at h3
  cases h5 : (!tagF f.Num || (decide (f.Ty < 1) || (decide (15 < f.Ty) || (f.Rep && !decide (f.One = noS))))) <;> rw [h5] at h3
  case true => simp at h3
  cases h6 : (f.Loose && (!f.Rep || !rnumF f.Ty)) <;> rw [h6] at h3
  case true => simp at h3
  simp only [Bool.or_eq_false_iff, Bool.not_eq_false', decide_eq_false_iff_not] at h5
  have h7 := h5.1
  unfold tagF tagnumF at h7
  simp only [Bool.and_eq_true, decide_eq_true_eq] at h7
  refine ⟨h1.1, ?_, ⟨by omega, by omega⟩, h7.1, h4, fun hl => ?_⟩
  · exact h1.2
  · rw [hl] at h6
    cases hr : f.Rep
    · rw [hr] at h6; simp at h6
    · rfl
theorem word_no (ty : Int) (c : UInt8) (hc : c.toNat < 48 ∨ c.toNat = 59) : c ∉ (wordT ty).data.toList := by
  intro hm
  have h : (wordT ty).data.toList.all (fun b => decide (48 ≤ b.toNat) && decide (b.toNat ≠ 59)) = true := by
    unfold wordT
    split
    · rfl
    · split
      · rfl
      · have : ty = 0 ∨ ty = 1 ∨ ty = 2 ∨ ty = 3 ∨ ty = 4 ∨ ty = 5 ∨ ty = 6 ∨ ty = 7 ∨ ty = 8 ∨ ty = 9 ∨ ty = 10 ∨ ty = 11 ∨ ty = 12 ∨ ty = 13 ∨ ty = 14 ∨ ty = 15 := by omega
        rcases this with rfl | rfl | rfl | rfl | rfl | rfl | rfl | rfl | rfl | rfl | rfl | rfl | rfl | rfl | rfl | rfl <;> decide
  have := List.all_eq_true.1 h c hm
  simp at this
  omega
theorem ty_no (f : Fld) (h : FOk f) (c : UInt8) (hc : c.toNat < 48 ∨ c.toNat = 59) : c ∉ (tyB f).data.toList := by
  unfold tyB
  rcases h.ref with ⟨_, h2⟩ | ⟨_, _, h2⟩
  · rw [decide_eq_false (right_big _ h2).2.1]
    exact right_no _ h2 c hc
  · rw [decide_eq_true h2]
    exact word_no _ c hc
theorem dig_no (x : Int) (c : UInt8) (hc : c.toNat < 48 ∨ 57 < c.toNat) : c ∉ (digF x false).data.toList := fun hm => by
  have e : (digF x false).data.toList = Lib.decDigits x.toNat := by simp [digF, digU]
  rw [e] at hm
  have := dec_digit _ c hm
  omega
theorem fw_no (f : Fld) (h : FOk f) (c : UInt8) (hc : c = 32 ∨ c = 10) : ∀ w ∈ fw f, c ∉ w := by
  have hc' : c.toNat < 48 ∨ c.toNat = 59 := by rcases hc with rfl | rfl <;> decide
  have hc2 : c.toNat < 48 ∨ 57 < c.toNat := by rcases hc with rfl | rfl <;> decide
  intro w hw
  unfold fw oneW ahW at hw
  have h1 : c ∉ (tyB f).data.toList := ty_no f h c hc'
  have h2 : c ∉ f.Name.data.toList := right_no _ h.nm c hc'
  have h3 : c ∉ (digF (IntKind.u64.wrap f.Num) false).data.toList ++ [59] := by
    rw [List.mem_append]
    rintro (h | h)
    · exact dig_no _ c hc2 h
    · rcases hc with rfl | rfl <;> simp at h
  have h4 : f.One ≠ noS → c ∉ f.One.data.toList := fun hn => by
    rcases h.one with h | h
    · exact absurd h hn
    · exact right_no _ h c hc'
  have k1 : c ∉ ([111, 110, 101, 111, 102] : List UInt8) := by rcases hc with rfl | rfl <;> decide
  have k2 : c ∉ ([108, 111, 111, 115, 101] : List UInt8) := by rcases hc with rfl | rfl <;> decide
  have k3 : c ∉ ([114, 101, 112, 101, 97, 116, 101, 100] : List UInt8) := by rcases hc with rfl | rfl <;> decide
  have k4 : c ∉ ([61] : List UInt8) := by rcases hc with rfl | rfl <;> decide
  rcases List.mem_append.1 hw with hw | hw
  · by_cases hn : f.One = noS
    · rw [decide_eq_true hn] at hw; simp at hw
    · rw [decide_eq_false hn] at hw
      simp only [cond_false, List.mem_cons, List.not_mem_nil, or_false] at hw
      rcases hw with rfl | rfl
      · exact k1
      · exact h4 hn
  · rcases List.mem_append.1 hw with hw | hw
    · cases hl : f.Loose <;> cases hr : f.Rep <;> rw [hl, hr] at hw <;> simp only [cond_true, cond_false, List.mem_cons, List.not_mem_nil, or_false] at hw <;> subst hw <;> assumption
    · simp only [List.mem_cons, List.not_mem_nil, or_false] at hw
      rcases hw with rfl | rfl | rfl | rfl <;> assumption
theorem fline_no (f : Fld) (h : rcheckF f = 0) : 10 ∉ fline f := by
  intro hm
  have h1 : (10 : UInt8) ∈ fline f ++ [32] := List.mem_append_left _ hm
  rw [fline_fw f h] at h1
  simp only [List.mem_cons, List.mem_flatMap] at h1
  rcases h1 with h1 | h1 | ⟨w, hw, h1⟩
  · exact absurd h1 (by decide)
  · exact absurd h1 (by decide)
  · rcases List.mem_append.1 h1 with h1 | h1
    · exact fw_no f (fok_of f h) 10 (.inr rfl) w hw h1
    · exact absurd h1 (by decide)
theorem word_inj (a b : Int) (ha : 1 ≤ a ∧ a ≤ 13) (hb : 1 ≤ b ∧ b ≤ 13) (h : wordT a = wordT b) : a = b := by
  have key : ∀ i j : Fin 14, 1 ≤ i.val → 1 ≤ j.val → wordT (i.val : Int) = wordT (j.val : Int) → i = j := by decide +kernel
  have := key ⟨a.toNat, by omega⟩ ⟨b.toNat, by omega⟩ (by simp; omega) (by simp; omega) (by
    have e1 : ((a.toNat : Nat) : Int) = a := by omega
    have e2 : ((b.toNat : Nat) : Int) = b := by omega
    simp only [e1, e2]
    exact h)
  have h3 := Fin.mk.inj this
  omega
theorem word_is (ty : Int) (h : 1 ≤ ty ∧ ty ≤ 13) (s : ByteArray) (hs : rrightF s = true) : wordT ty ≠ s := by
  intro e
  have h1 := (right_big s hs).2.2
  have h2 : wordsL.any (fun w => decide (w = wordT ty)) = true := by
    have : ty = 1 ∨ ty = 2 ∨ ty = 3 ∨ ty = 4 ∨ ty = 5 ∨ ty = 6 ∨ ty = 7 ∨ ty = 8 ∨ ty = 9 ∨ ty = 10 ∨ ty = 11 ∨ ty = 12 ∨ ty = 13 := by omega
    rcases this with rfl | rfl | rfl | rfl | rfl | rfl | rfl | rfl | rfl | rfl | rfl | rfl | rfl <;> decide +kernel
  rw [e] at h2
  rw [List.all_eq_not_any_not] at h1
  simp only [Bool.not_not] at h1
  rw [h2] at h1
  cases h1
theorem ba_eq {a b : ByteArray} (h : a.data.toList = b.data.toList) : a = b := ByteArray.ext (Array.ext' h)
theorem dig_inj {a b : Int} (ha : 1 ≤ a ∧ a ≤ 536870911) (hb : 1 ≤ b ∧ b ≤ 536870911) (h : (digF (IntKind.u64.wrap a) false).data.toList = (digF (IntKind.u64.wrap b) false).data.toList) : a = b := by
  have e : ∀ n : Int, 1 ≤ n ∧ n ≤ 536870911 → dgt n = digF (IntKind.u64.wrap n) false := fun n hn => by
    unfold dgt
    rw [if_neg (by omega)]
  rw [← e a ha, ← e b hb] at h
  exact dgt_inj (by omega) (by omega) (by omega) (by omega) h
/-- Two fields of one text are one, if their refs are of one kind. -/
theorem fline_inj (f g : Fld) (hf : rcheckF f = 0) (hg : rcheckF g = 0) (hk : f.Ref = g.Ref → (f.Ty = 14 ∨ f.Ty = 15) → (g.Ty = 14 ∨ g.Ty = 15) → f.Ty = g.Ty) (h : fline f = fline g) : f = g := by
  have of := fok_of f hf
  have og := fok_of g hg
  have h1 : fline f ++ [32] = fline g ++ [32] := by rw [h]
  rw [fline_fw f hf, fline_fw g hg] at h1
  simp only [List.cons.injEq, true_and] at h1
  have h2 := pieces_eq 32 h1 (fw_no f of 32 (.inl rfl)) (fw_no g og 32 (.inl rfl))
  have h3 : f.One = g.One ∧ f.Loose = g.Loose ∧ f.Rep = g.Rep ∧ tyB f = tyB g ∧ f.Name = g.Name ∧ f.Num = g.Num := by
    have fin : (tyB f).data.toList = (tyB g).data.toList → f.Name.data.toList = g.Name.data.toList → (digF (IntKind.u64.wrap f.Num) false).data.toList ++ [59] = (digF (IntKind.u64.wrap g.Num) false).data.toList ++ [59] → tyB f = tyB g ∧ f.Name = g.Name ∧ f.Num = g.Num := fun a b c => ⟨ba_eq a, ba_eq b, dig_inj of.num og.num (List.append_cancel_right c)⟩
    have lf := of.ls
    have lg := og.ls
    unfold fw oneW ahW at h2
    by_cases o1 : f.One = noS <;> by_cases o2 : g.One = noS <;> cases l1 : f.Loose <;> cases l2 : g.Loose <;> cases r1 : f.Rep <;> cases r2 : g.Rep <;> simp only [l1, l2, r1, r2, o1, o2, decide_true, decide_false, cond_true, cond_false, List.nil_append, List.cons_append, List.cons.injEq, and_true, true_and, reduceCtorEq, List.cons_ne_self, and_false, false_and, Bool.true_eq_false, Bool.false_eq_true, forall_const, not_true_eq_false] at h2 lf lg <;> first
      | (exact absurd lf id)
      | (exact absurd lg id)
      | (refine ⟨by first | rw [o1, o2] | exact ba_eq h2.1, rfl, rfl, ?_⟩; first | exact fin h2.1 h2.2.1 h2.2.2 | exact fin h2.2.1 h2.2.2.1 h2.2.2.2)
      | (exfalso; simp at h2)
  obtain ⟨e1, e2, e3, e4, e5, e6⟩ := h3
  have h4 : f.Ty = g.Ty ∧ f.Ref = g.Ref := by
    unfold tyB at e4
    rcases of.ref with ⟨t1, r1⟩ | ⟨t1, t1', r1⟩ <;> rcases og.ref with ⟨t2, r2⟩ | ⟨t2, t2', r2⟩
    · rw [decide_eq_false (right_big _ r1).2.1, decide_eq_false (right_big _ r2).2.1] at e4
      exact ⟨hk e4 t1 t2, e4⟩
    · rw [decide_eq_false (right_big _ r1).2.1, decide_eq_true r2] at e4
      exact absurd e4.symm (word_is g.Ty (by have := og.ty; omega) f.Ref r1)
    · rw [decide_eq_true r1, decide_eq_false (right_big _ r2).2.1] at e4
      exact absurd e4 (word_is f.Ty (by have := of.ty; omega) g.Ref r2)
    · rw [decide_eq_true r1, decide_eq_true r2] at e4
      exact ⟨word_inj _ _ (by have := of.ty; omega) (by have := og.ty; omega) e4, by rw [r1, r2]⟩
  cases f; cases g
  simp only at e1 e2 e3 e5 e6 h4
  rw [e1, e2, e3, e5, e6, h4.1, h4.2]
end Go.Proofs.YtmhdapjmndfkgaaGreatDoor.Sp.B
