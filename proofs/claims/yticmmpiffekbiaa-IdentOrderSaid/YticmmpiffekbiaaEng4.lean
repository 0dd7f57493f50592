/- The engine: small code, what it comes to, and that a program's calls come to it; part 4. No condition. -/
import Derived.Test.YticmmpiffekbiaaEng3
import Derived.LoopN
import Derived.Laws.Sem
set_option linter.unusedVariables false
set_option linter.unusedSimpArgs false
namespace Go.Proofs.Yticmmpiffekbiaa.Eng
open Go Go.RowKit
section
variable {call : Call} {G : Nat → AV} {t t' : List AV} {g : Key → Option Ob} {d j : Nat}
def Agree (t t' : List AV) (l : List Nat) : Prop := ∀ s ∈ l, t.getD s .undef = t'.getD s .undef
theorem Agree.left {l m : List Nat} (h : Agree t t' (l ++ m)) : Agree t t' l := fun s hs => h s (List.mem_append_left _ hs)
theorem Agree.right {l m : List Nat} (h : Agree t t' (l ++ m)) : Agree t t' m := fun s hs => h s (List.mem_append_right _ hs)
theorem ev_congr {x : CX} (h : Agree t t' (xs1 x)) : ev t G x = ev t' G x := by
  cases x with
  | t i => exact h i (by simp [xs1])
  | c a => rfl
  | g n => rfl
theorem argsOf_congr : ∀ {l : List CX}, Agree t t' (l.flatMap xs1) → argsOf t G l = argsOf t' G l
  | [], _ => rfl
  | x :: l, h => by
    rw [List.flatMap_cons] at h
    simp only [argsOf, ev_congr (G := G) h.left, argsOf_congr h.right]
theorem capsOf_congr : ∀ {l : List CX}, Agree t t' (l.flatMap xs1) → capsOf G t g l = capsOf G t' g l
  | [], _ => rfl
  | x :: l, h => by
    rw [List.flatMap_cons] at h
    simp only [capsOf, capOf, ev_congr (G := G) h.left, capsOf_congr h.right]
theorem fzParts_congr : ∀ {l : List (Nat × CX)}, Agree t t' (l.flatMap fun p => xs1 p.2) → fzParts t G l = fzParts t' G l
  | [], _ => rfl
  | (i, x) :: l, h => by
    rw [List.flatMap_cons] at h
    simp only [fzParts, ev_congr (G := G) h.left, fzParts_congr h.right]
theorem parts_congr : ∀ {l : List (Nat × Nat × CX)}, Agree t t' (l.flatMap fun p => xs1 p.2.2) → (l.map fun p => (p.1, p.2.1, ev t G p.2.2)) = l.map fun p => (p.1, p.2.1, ev t' G p.2.2)
  | [], _ => rfl
  | (i, n, x) :: l, h => by
    rw [List.flatMap_cons] at h
    simp only [List.map_cons, ev_congr (G := G) h.left, parts_congr h.right]
theorem opt_congr {x : Option CX} (h : Agree t t' ((x.map xs1).getD [])) : x.map (ev t G) = x.map (ev t' G) := by
  cases x with
  | none => rfl
  | some x => simp only [Option.map_some]; rw [ev_congr (G := G) h]
theorem denX_congr {op : COp} (h : Agree t t' (usesOp op)) : denX call G t g d j op = denX call G t' g d j op := by
  cases op <;> simp only [usesOp] at h
  case nil => rfl
  case alloc => rfl
  case bad => rfl
  case pick c a b => simp only [denX, ev_congr (G := G) h.left.left, ev_congr (G := G) h.left.right, ev_congr (G := G) h.right]
  case build z ps => simp only [denX, parts_congr (G := G) h]
  case bsl n sz z ps => simp only [denX, fzParts_congr (G := G) h]
  case mkf f l => simp only [denX, capsOf_congr (G := G) h]
  case call o f l => simp only [denX, argsOf_congr (G := G) h]
  case cal o f l => simp only [denX, ev_congr (G := G) h.left, argsOf_congr (G := G) h.right]
  case sls x lo hi =>
    cases lo <;> cases hi <;> simp only [Option.map_none, Option.map_some, Option.getD_none, Option.getD_some, List.append_nil] at h <;> simp only [denX]
    · rw [ev_congr (G := G) h]
    · rw [ev_congr (G := G) h.left, ev_congr (G := G) h.right]
    · rw [ev_congr (G := G) h.left, ev_congr (G := G) h.right]
    · rw [ev_congr (G := G) h.left.left, ev_congr (G := G) h.left.right, ev_congr (G := G) h.right]
  case slc sz x lo hi =>
    cases lo <;> cases hi <;> simp only [Option.map_none, Option.map_some, Option.getD_none, Option.getD_some, List.append_nil] at h <;> simp only [denX]
    · rw [ev_congr (G := G) h]
    · rw [ev_congr (G := G) h.left, ev_congr (G := G) h.right]
    · rw [ev_congr (G := G) h.left, ev_congr (G := G) h.right]
    · rw [ev_congr (G := G) h.left.left, ev_congr (G := G) h.left.right, ev_congr (G := G) h.right]
  case len s x => cases s <;> simp only [denX, ev_congr (G := G) h]
  case st => rfl
  case app => rfl
  all_goals first
    | (simp only [denX, ev_congr (G := G) h]; done)
    | (simp only [denX, ev_congr (G := G) h.left, ev_congr (G := G) h.right]; done)
theorem wants_congr {gd : Option (Nat × Bool)} (h : Agree t t' (match gd with | some (t, _) => [t] | none => [])) : wants t gd = wants t' gd := by
  cases gd with
  | none => rfl
  | some p => simp only [wants]; rw [h p.1 (by simp)]
theorem denP1_congr {o : List (Key × Ob)} {c : CO} (h : Agree t t' (usesO c)) : denP1 call G o t c = denP1 call G o t' c := by
  unfold denP1
  rw [wants_congr (h.right)]
  simp only [denX_congr (op := c.op) h.left]
end
def selT (L : Nat → Bool) : List PD → List AV → List AV
  | [], t => t
  | p :: D, t => selT (fun j => L (j + 1)) D (bif L 0 then t.set p.d p.v else t)
def selN (L : Nat → Bool) : List PD → List (Key × Ob)
  | [] => []
  | p :: D => (bif L 0 then p.new else []) ++ selN (fun j => L (j + 1)) D
def selS (L : Nat → Bool) : List PD → List Key
  | [] => []
  | p :: D => (bif L 0 then p.seals else []) ++ selS (fun j => L (j + 1)) D
theorem selT_len : ∀ (D : List PD) (L : Nat → Bool) (t : List AV), (selT L D t).length = t.length
  | [], _, _ => rfl
  | p :: D, L, t => by
    simp only [selT]
    rw [selT_len D]
    cases L 0 <;> simp
theorem selT_not : ∀ {D : List PD} {L : Nat → Bool} {t : List AV} {s : Nat}, (∀ (j : Nat) (p : PD), D[j]? = some p → L j = true → p.d ≠ s) → (selT L D t)[s]? = t[s]?
  | [], _, _, _, _ => rfl
  | p :: D, L, t, s, h => by
    simp only [selT]
    rw [selT_not (fun j p hj hl => h (j + 1) p (by simpa using hj) hl)]
    cases hL : L 0 with
    | false => rfl
    | true =>
      simp only [cond_true]
      rw [List.getElem?_set_ne (h 0 p rfl hL)]
theorem selT_of : ∀ {D : List PD} {L : Nat → Bool} {t : List AV} {j : Nat} {p : PD}, D[j]? = some p → L j = true → (∀ (j' : Nat) (p' : PD), D[j']? = some p' → p'.d = p.d → j' = j) → (selT L D t)[p.d]? = (t[p.d]?).map fun _ => p.v
  | [], _, _, j, _, h, _, _ => by simp at h
  | p0 :: D, L, t, 0, p, h, hL, hd => by
    simp at h
    subst h
    simp only [selT]
    rw [selT_not (fun j p' hj _ he => by have := hd (j + 1) p' (by simpa using hj) he; omega), hL]
    simp only [cond_true]
    rw [List.getElem?_set]
    simp only [if_true]
    by_cases hlt : p0.d < t.length
    · simp [hlt]
    · simp [hlt]
  | p0 :: D, L, t, j + 1, p, h, hL, hd => by
    simp only [selT]
    rw [selT_of (j := j) (by simpa using h) hL (fun j' p' hj he => by have := hd (j' + 1) p' (by simpa using hj) he; omega)]
    have hne : p0.d ≠ p.d := fun he => by have := hd 0 p0 rfl he; omega
    cases L 0 with
    | false => rfl
    | true => simp only [cond_true]; rw [List.getElem?_set_ne hne]
theorem selS_mem : ∀ {D : List PD} {L : Nat → Bool} {k : Key}, k ∈ selS L D ↔ ∃ (j : Nat) (p : PD), D[j]? = some p ∧ L j = true ∧ k ∈ p.seals
  | [], L, k => by simp [selS]
  | p :: D, L, k => by
    simp only [selS, List.mem_append]
    rw [selS_mem (D := D)]
    constructor
    · rintro (h | ⟨j, p', h1, h2, h3⟩)
      · cases hL : L 0 with
        | false => rw [hL] at h; cases h
        | true => rw [hL] at h; exact ⟨0, p, rfl, hL, h⟩
      · exact ⟨j + 1, p', by simpa using h1, h2, h3⟩
    · rintro ⟨j, p', h1, h2, h3⟩
      cases j with
      | zero => simp at h1; subst h1; left; rw [h2]; exact h3
      | succ j => exact .inr ⟨j, p', by simpa using h1, h2, h3⟩
theorem getO_none {l : List (Key × Ob)} {k : Key} (h : ∀ x, (k, x) ∉ l) : getO l k = none := by
  cases hg : getO l k with
  | none => rfl
  | some x => exact absurd (getO_mem hg) (h x)
theorem selN_not : ∀ {D : List PD} {L : Nat → Bool} {k : Key}, (∀ (j : Nat) (p : PD), D[j]? = some p → ∀ q ∈ p.new, q.1.1 = p.d) → (∀ (j : Nat) (p : PD), D[j]? = some p → L j = true → p.d ≠ k.1) → getO (selN L D) k = none
  | [], _, _, _, _ => rfl
  | p :: D, L, k, hk, h => by
    simp only [selN]
    rw [getO_append, selN_not (fun j p hj => hk (j + 1) p (by simpa using hj)) (fun j p hj hl => h (j + 1) p (by simpa using hj) hl), Option.or_none]
    cases hL : L 0 with
    | false => rfl
    | true => exact getO_none fun x hm => h 0 p rfl hL (hk 0 p rfl _ hm).symm
theorem selN_of : ∀ {D : List PD} {L : Nat → Bool} {k : Key} {j : Nat} {p : PD}, (∀ (j : Nat) (p : PD), D[j]? = some p → ∀ q ∈ p.new, q.1.1 = p.d) → D[j]? = some p → L j = true → (∀ (j' : Nat) (p' : PD), D[j']? = some p' → p'.d = p.d → j' = j) → k.1 = p.d → getO (selN L D) k = getO p.new k
  | [], _, _, j, _, _, h, _, _, _ => by simp at h
  | p0 :: D, L, k, 0, p, hk, h, hL, hd, he => by
    simp at h
    subst h
    simp only [selN]
    rw [getO_append, selN_not (fun j p hj => hk (j + 1) p (by simpa using hj)) (fun j p' hj _ h => by have := hd (j + 1) p' (by simpa using hj) (h.trans he); omega), Option.or_none, hL]
    rfl
  | p0 :: D, L, k, j + 1, p, hk, h, hL, hd, he => by
    simp only [selN]
    rw [getO_append, selN_of (j := j) (fun j p hj => hk (j + 1) p (by simpa using hj)) (by simpa using h) hL (fun j' p' hj h => by have := hd (j' + 1) p' (by simpa using hj) h; omega) he]
    have hne : p0.d ≠ k.1 := fun h' => by have := hd 0 p0 rfl (h'.trans he); omega
    have : getO (bif L 0 then p0.new else []) k = none := by
      cases hL : L 0 with
      | false => rfl
      | true => exact getO_none fun x hm => hne (hk 0 p0 rfl _ hm).symm
    rw [this, Option.none_or]
theorem sel_all : ∀ {D : List PD} {L : Nat → Bool} {t : List AV}, (∀ j, j < D.length → L j = true) → selT L D t = D.foldl (fun t p => t.set p.d p.v) t ∧ selN L D = D.flatMap (·.new) ∧ selS L D = D.flatMap (·.seals)
  | [], _, _, _ => ⟨rfl, rfl, rfl⟩
  | p :: D, L, t, h => by
    obtain ⟨h1, h2, h3⟩ := sel_all (D := D) (L := fun j => L (j + 1)) (t := t.set p.d p.v) (fun j hj => h (j + 1) (by simpa using hj))
    have h0 := h 0 (by simp)
    simp only [selT, selN, selS, h0, cond_true, List.foldl_cons, List.flatMap_cons]
    exact ⟨h1, by rw [h2], by rw [h3]⟩
theorem sel_none : ∀ {D : List PD} {L : Nat → Bool} {t : List AV}, (∀ j, L j = false) → selT L D t = t ∧ selN L D = [] ∧ selS L D = []
  | [], _, _, _ => ⟨rfl, rfl, rfl⟩
  | p :: D, L, t, h => by
    obtain ⟨h1, h2, h3⟩ := sel_none (D := D) (L := fun j => L (j + 1)) (t := t) (fun j => h (j + 1))
    simp only [selT, selN, selS, h 0, cond_false, List.nil_append]
    exact ⟨h1, h2, h3⟩
theorem denPs_get {call : Call} {G : Nat → AV} {o : List (Key × Ob)} : ∀ {l : List CO} {t : List AV} {D : List PD}, denPs call G o l t = some D → D.length = l.length ∧
    ∀ (i : Nat) (c : CO), l[i]? = some c → ∃ p, D[i]? = some p ∧ denP1 call G o (selT (fun j => decide (j < i)) D t) c = some p
  | [], t, D, h => by simp [denPs] at h; subst h; exact ⟨rfl, fun i c h => by simp at h⟩
  | c :: l, t, D, h => by
    simp only [denPs, Option.bind_eq_some_iff, Option.some.injEq] at h
    obtain ⟨p, hp, D', hD, rfl⟩ := h
    obtain ⟨h1, h2⟩ := denPs_get hD
    refine ⟨by simp [h1], fun i c' hc => ?_⟩
    cases i with
    | zero =>
      simp at hc
      subst hc
      refine ⟨p, rfl, ?_⟩
      rw [(sel_none (D := p :: D') (t := t) (fun j => by simp)).1]
      exact hp
    | succ i =>
      obtain ⟨q, hq, h3⟩ := h2 i c' (by simpa using hc)
      refine ⟨q, by simpa using hq, ?_⟩
      simp only [selT, Nat.zero_lt_succ, decide_true, cond_true, Nat.add_lt_add_iff_right]
      exact h3
theorem foldl_or {e : List Edge} {f : Edge → Bool} {h : Edge → Nat} {b : Nat} : ∀ {s : Nat}, (e.foldl (fun s e => bif f e then s ||| h e else s) s).testBit b = true → s.testBit b = true ∨ ∃ x ∈ e, f x = true ∧ (h x).testBit b = true := by
  induction e with
  | nil => exact fun h => .inl h
  | cons x e ih =>
    intro s hs
    rw [List.foldl_cons] at hs
    rcases ih hs with h1 | ⟨y, hy, h1⟩
    · cases hf : f x with
      | false => rw [hf] at h1; exact .inl h1
      | true =>
        rw [hf] at h1
        simp only [cond_true, Nat.testBit_or, Bool.or_eq_true] at h1
        rcases h1 with h1 | h1
        · exact .inl h1
        · exact .inr ⟨x, List.mem_cons_self, hf, h1⟩
    · exact .inr ⟨y, List.mem_cons_of_mem _ hy, h1⟩
theorem masks_get : ∀ (l : List Oper) (acc : List Nat), (masks l acc).length = acc.length + l.length ∧ (∀ i, i < acc.length → (masks l acc).getD i 0 = acc.getD i 0) ∧
    ∀ (j : Nat) (o : Oper) (b : Nat), l[j]? = some o → ((masks l acc).getD (acc.length + j) 0).testBit b = true → ∃ e ∈ o.after, Region.binds .any e = true ∧ e.on < acc.length + j ∧ (b = e.on ∨ ((masks l acc).getD e.on 0).testBit b = true)
  | [], acc => ⟨rfl, fun i h => rfl, fun j o b h => by simp at h⟩
  | o :: l, acc => by
    let x := o.after.foldl (fun s e => bif Region.binds .any e && decide (e.on < acc.length) then s ||| (2 ^ e.on ||| acc.getD e.on 0) else s) 0
    have hm : masks (o :: l) acc = masks l (acc ++ [x]) := rfl
    obtain ⟨h1, h2, h3⟩ := masks_get l (acc ++ [x])
    have ha : ∀ i, i < acc.length → (masks (o :: l) acc).getD i 0 = acc.getD i 0 := by
      intro i hi
      rw [hm, h2 i (by simp; omega)]
      simp [List.getD_eq_getElem?_getD, List.getElem?_append_left hi]
    refine ⟨by rw [hm, h1]; simp; omega, ha, fun j o' b hj hb => ?_⟩
    cases j with
    | zero =>
      simp at hj
      subst hj
      rw [Nat.add_zero, hm, h2 _ (by simp)] at hb
      simp only [List.getD_eq_getElem?_getD, List.getElem?_append_right (Nat.le_refl _), Nat.sub_self] at hb
      have hb : x.testBit b = true := by simpa using hb
      simp only [x, ← Array.foldl_toList] at hb
      rcases foldl_or hb with hb | ⟨e, he, hf, hb⟩
      · simp at hb
      · simp only [Bool.and_eq_true, decide_eq_true_eq] at hf
        refine ⟨e, Array.mem_toList_iff.1 he, hf.1, by omega, ?_⟩
        rw [Nat.testBit_or, Bool.or_eq_true] at hb
        rcases hb with hb | hb
        · rw [Nat.testBit_two_pow] at hb
          exact .inl (of_decide_eq_true hb).symm
        · exact .inr (by rw [ha _ hf.2]; exact hb)
    | succ j =>
      have e1 : acc.length + (j + 1) = (acc ++ [x]).length + j := by simp; omega
      rw [e1] at hb ⊢
      exact h3 j o' b (by simpa using hj) hb
def Closed (ops : Array Oper) (L : Nat → Bool) : Prop := ∀ (i : Nat) (o : Oper), L i = true → ops[i]? = some o → ∀ e ∈ o.after, Region.binds .any e = true → L e.on = true
theorem masks_sound {ops : Array Oper} {L : Nat → Bool} (hc : Closed ops L) : ∀ (n j : Nat), j < n → ∀ (o : Oper), ops[j]? = some o → (∀ e ∈ o.after, Region.binds .any e = true → L e.on = true) → ∀ b, ((masks ops.toList []).getD j 0).testBit b = true → L b = true
  | 0, j, h, _, _, _, _, _ => by omega
  | n + 1, j, h, o, ho, he, b, hb => by
    obtain ⟨e, h1, h2, h3, h4⟩ := (masks_get ops.toList []).2.2 j o b (by rw [Array.getElem?_toList]; exact ho) (by simpa using hb)
    simp only [List.length_nil, Nat.zero_add] at h3
    rcases h4 with rfl | h4
    · exact he e h1 h2
    · have hlt : e.on < ops.size := by
        have := (Array.getElem?_eq_some_iff.1 ho).1
        omega
      refine masks_sound hc n e.on (by omega) ops[e.on] (Array.getElem?_eq_getElem hlt) (fun e' h1' h2' => hc e.on _ (he e h1 h2) (Array.getElem?_eq_getElem hlt) e' h1' h2') b h4
end Go.Proofs.Yticmmpiffekbiaa.Eng
namespace Go.Proofs.Yticmmpiffekbiaa.Eng
open Go Go.RowKit
section
variable {P : Program} {G : Nat → AV} {w0 w w' : World} {S0 : Nat → Nat → Prop} {T : List AV} {g g' : Key → Option Ob} {μ μ' ν : Key → Option (Nat × Nat)} {a : Act} {o : Oper} {r : R} {call : Call} {g0 : Key → Option Ob} {d j : Nat} {op : COp} {ow : Nat → Bool} {f : AV → AV} {σ σ' : St}
  {ops : Array Oper} {Q : Exit → Act → World → Prop} {K : Act → World → Prop} {i : Nat} {c : CO}
abbrev lst (listed : Array Bool) : Nat → Bool := fun i => listed.getD i false
theorem ready_iff {listed : Array Bool} (hs : listed.size = ops.size) {i : Nat} : i ∈ Region.ready .any ops listed ↔ ∃ o, ops[i]? = some o ∧ lst listed i = false ∧ ∀ e ∈ o.after, Region.binds .any e = true → lst listed e.on = true := by
  unfold Region.ready
  simp only [List.mem_filter, List.mem_range, Bool.and_eq_true, Bool.not_eq_true']
  constructor
  · rintro ⟨h1, h2, h3⟩
    have ho : ops[i]? = some ops[i] := Array.getElem?_eq_getElem h1
    refine ⟨_, ho, ?_, fun e he hb => ?_⟩
    · simp only [lst, Array.getD_eq_getD_getElem?] at h2 ⊢
      rw [Array.getElem?_eq_getElem (by omega)] at h2 ⊢
      exact h2
    · rw [ho] at h3
      simp only [Option.map_some, Option.getD_some, Array.all_eq_true_iff_forall_mem] at h3
      have := h3 e he
      rw [hb] at this
      simpa using this
  · rintro ⟨o, ho, h2, h3⟩
    have h1 : i < ops.size := (Array.getElem?_eq_some_iff.1 ho).1
    refine ⟨h1, ?_, ?_⟩
    · simp only [lst, Array.getD_eq_getD_getElem?] at h2 ⊢
      rw [Array.getElem?_eq_getElem (by omega)] at h2 ⊢
      exact h2
    · rw [ho]
      simp only [Option.map_some, Option.getD_some, Array.all_eq_true_iff_forall_mem]
      intro e he
      cases hb : Region.binds .any e with
      | false => rfl
      | true => simpa using h3 e he hb
theorem lst_set {listed : Array Bool} {i : Nat} (hi : i < listed.size) (k : Nat) : lst (listed.setIfInBounds i true) k = (lst listed k || decide (k = i)) := by
  simp only [lst, Array.getD_eq_getD_getElem?, Array.getElem?_setIfInBounds]
  by_cases h : i = k
  · subst h; simp [hi]
  · have : ¬ k = i := fun e => h e.symm
    simp [h, this]
def unl (L : Nat → Bool) : Nat → Nat
  | 0 => 0
  | n + 1 => unl L n + (bif L n then 0 else 1)
theorem unl_congr {L L' : Nat → Bool} : ∀ {n : Nat}, (∀ k, k < n → L k = L' k) → unl L n = unl L' n
  | 0, _ => rfl
  | n + 1, h => by simp only [unl]; rw [unl_congr (n := n) fun k hk => h k (by omega), h n (by omega)]
theorem unl_set {L : Nat → Bool} {i : Nat} (hL : L i = false) : ∀ {n : Nat}, i < n → unl L n = unl (fun k => L k || decide (k = i)) n + 1
  | n + 1, h => by
    simp only [unl]
    by_cases he : i = n
    · subst he
      have hc : unl (fun k => L k || decide (k = i)) i = unl L i := unl_congr fun k hk => by
        have : ¬ k = i := by omega
        simp [this]
      rw [hc]
      simp [hL]
    · rw [unl_set hL (n := n) (by omega)]
      have : ¬ n = i := fun e => he e.symm
      simp only [this, decide_false, Bool.or_false]
      omega
theorem unl_zero {L : Nat → Bool} : ∀ {n : Nat}, unl L n = 0 → ∀ k, k < n → L k = true
  | n + 1, h, k, hk => by
    simp only [unl] at h
    by_cases he : k = n
    · subst he; cases hL : L k with
      | true => rfl
      | false => rw [hL] at h; simp at h
    · exact unl_zero (n := n) (by omega) k (by omega)
theorem unl_cut {L : Nat → Bool} {m : Nat} : ∀ {n : Nat}, m ≤ n → (∀ k, k < n → L k = decide (k < m)) → unl L n = n - m
  | 0, h, _ => by simp [unl]
  | n + 1, h, hL => by
    simp only [unl]
    by_cases he : m = n + 1
    · subst he
      have : ∀ {n' : Nat}, n' ≤ n + 1 → unl L n' = 0 := by
        intro n'
        induction n' with
        | zero => intro _; rfl
        | succ n' ih => intro hn; simp only [unl]; rw [ih (by omega), hL n' (by omega)]; have : n' < n + 1 := (by omega); simp [this]
      rw [this (by omega), hL n (by omega)]
      simp
    · rw [unl_cut (n := n) (by omega) fun k hk => hL k (by omega), hL n (by omega)]
      have : ¬ n < m := by omega
      simp [this]
      omega
theorem back_get (hb : backOk ops = true) {i : Nat} {o : Oper} (hi : ops[i]? = some o) : ∀ e ∈ o.after, Region.binds .any e = true → e.on < i := by
  intro e he hbd
  unfold backOk at hb
  have := List.all_eq_true.1 hb i (List.mem_range.2 (Array.getElem?_eq_some_iff.1 hi).1)
  rw [hi] at this
  simp only [Array.all_eq_true_iff_forall_mem] at this
  have := this e he
  rw [hbd] at this
  simpa using this
theorem barred_get {m : Nat} (h : barred (masks ops.toList []) m = true) {j k : Nat} (hj : j < ops.size) (hm : m ≤ j) (hk : k < j) : ((masks ops.toList []).getD j 0).testBit k = true := by
  unfold barred at h
  have := List.all_eq_true.1 h j (List.mem_range.2 (by rw [(masks_get _ _).1]; simpa using hj))
  simp only [Bool.or_eq_true, decide_eq_true_eq] at this
  rcases this with h | h
  · omega
  · exact List.all_eq_true.1 h k (List.mem_range.2 hk)
theorem suf_sound (hcall : CallOk P G call) (hback : backOk ops = true) {m : Nat} (hbar : barred (masks ops.toList []) m = true) {l : List CO} (hl : l.length = ops.size) (hF : ∀ (n : Nat) (c : CO), l[n]? = some c → ∃ o, ops[n]? = some o ∧ From P ow ops c o)
    (hQ : ∀ a' w' μ', Inv G w0 S0 σ'.t (getO σ'.o) μ' a' w' → Q .normal a' w') : ∀ (fuel i : Nat) (listed : Array Bool) (σ : St) (μ : Key → Option (Nat × Nat)) (a : Act) (w : World), m ≤ i → i + fuel = ops.size → listed.size = ops.size →
    (∀ k, k < ops.size → lst listed k = decide (k < i)) → denOs call G (l.drop i) σ = some σ' → Inv G w0 S0 σ.t (getO σ.o) μ a w → wpAny P .any ops Q fuel listed a w
  | 0, i, listed, σ, μ, a, w, hm, hi, hs, hL, hd, hI => by
    have hr : Region.ready .any ops listed = [] := by
      rw [List.eq_nil_iff_forall_not_mem]
      intro k hk
      obtain ⟨o, ho, h1, _⟩ := (ready_iff hs).1 hk
      have hk := (Array.getElem?_eq_some_iff.1 ho).1
      rw [hL k hk] at h1
      have : k < i := by omega
      simp [this] at h1
    refine ⟨hr, ?_⟩
    rw [List.drop_eq_nil_of_le (by omega)] at hd
    simp only [denOs, Option.some.injEq] at hd
    subst hd
    exact hQ _ _ _ hI
  | fuel + 1, i, listed, σ, μ, a, w, hm, hi, hs, hL, hd, hI => by
    have hlt : i < ops.size := by omega
    have ho : ops[i]? = some ops[i] := Array.getElem?_eq_getElem hlt
    have hmem : i ∈ Region.ready .any ops listed := (ready_iff hs).2 ⟨_, ho, by rw [hL i hlt]; simp, fun e he hb => by
      have := back_get hback ho e he hb
      rw [hL _ (by omega)]; simpa using this⟩
    have hcl : Closed ops (lst listed) := by
      intro k o hk hko e he hb
      have h1 := (Array.getElem?_eq_some_iff.1 hko).1
      rw [hL k h1] at hk
      simp at hk
      have := back_get hback hko e he hb
      rw [hL _ (by omega)]; simp; omega
    refine ⟨fun h => absurd (h ▸ hmem) (by simp), fun k hk => ?_⟩
    obtain ⟨o, hko, h1, h2⟩ := (ready_iff hs).1 hk
    have hks := (Array.getElem?_eq_some_iff.1 hko).1
    have hki : k = i := by
      rw [hL k hks] at h1
      simp at h1
      by_cases he : k = i
      · exact he
      · have := masks_sound hcl (k + 1) k (by omega) o hko h2 i (barred_get hbar hks (by omega) (by omega))
        rw [hL i hlt] at this
        simp at this
    subst hki
    rw [ho] at hko
    cases hko
    have hcl' : k < l.length := by omega
    have hdrop : l.drop k = l[k] :: l.drop (k + 1) := (List.drop_eq_getElem_cons hcl')
    rw [hdrop] at hd
    simp only [denOs, Option.bind_eq_some_iff] at hd
    obtain ⟨σ1, hd1, hd2⟩ := hd
    obtain ⟨o', ho', hfrom⟩ := hF k l[k] (List.getElem?_eq_getElem hcl')
    rw [ho] at ho'
    cases ho'
    refine step_1 hcall hI ho hfrom hd1 fun a' w' μ' hI' => suf_sound hcall hback hbar hl hF hQ fuel (k + 1) _ σ1 μ' a' w' (by omega) (by omega) (by simpa using hs) (fun k' hk' => ?_) hd2 hI'
    rw [lst_set (by omega), hL k' hk', Bool.eq_iff_iff]
    simp
    omega
theorem pre_get {l : List CO} {ms : List Nat} {m : Nat} (h : preOk l ms m = true) : m ≤ l.length ∧ ∀ (j i : Nat) (c : CO), j < m → i < m → i ≠ j → l[i]? = some c → ∃ cj d, l[j]? = some cj ∧ cj.dst = some d ∧ c.dst ≠ some d ∧ (d ∈ usesO c → j < i ∧ (ms.getD i 0).testBit j = true) := by
  unfold preOk at h
  simp only [Bool.and_eq_true, decide_eq_true_eq] at h
  refine ⟨h.1, fun j i c hj hi hne hc => ?_⟩
  have := List.all_eq_true.1 h.2 j (List.mem_range.2 hj)
  split at this
  · cases this
  · rename_i d hd
    simp only [Option.bind_eq_some_iff] at hd
    obtain ⟨cj, hcj, hd⟩ := hd
    refine ⟨cj, d, hcj, hd, ?_⟩
    have := List.all_eq_true.1 this i (List.mem_range.2 hi)
    rw [hc] at this
    simp only [Bool.or_eq_true, beq_iff_eq, hne, false_or, Bool.and_eq_true, bne_iff_ne, ne_eq, Bool.not_eq_true', decide_eq_true_eq] at this
    refine ⟨this.1, fun hd => ?_⟩
    rcases this.2 with h | h
    · have := List.contains_iff_mem.2 hd
      rw [h] at this; cases this
    · exact h
end
end Go.Proofs.Yticmmpiffekbiaa.Eng
namespace Go.Proofs.Yticmmpiffekbiaa.Eng
open Go Go.RowKit
section
variable {P : Program} {G : Nat → AV} {w0 w w' : World} {S0 : Nat → Nat → Prop} {T : List AV} {g g' : Key → Option Ob} {μ μ' ν : Key → Option (Nat × Nat)} {a : Act} {o : Oper} {r : R} {call : Call} {g0 : Key → Option Ob} {d j : Nat} {op : COp} {ow : Nat → Bool} {f : AV → AV} {σ σ' : St}
  {ops : Array Oper} {Q : Exit → Act → World → Prop} {K : Act → World → Prop} {i : Nat} {c : CO}
theorem gx_step {g0 : Key → Option Ob} {N N' n : List (Key × Ob)} {S S' s : List Key} (h1 : ∀ k ∈ S, (gx g0 N S k).isSome) (h2 : ∀ k ∈ s, (gx g0 N S k).isSome) (h3 : ∀ k, (getO n k).isSome → gx g0 N S k = none)
    (hN : ∀ k, getO N' k = (getO N k).or (getO n k)) (hS : ∀ k, k ∈ S' ↔ k ∈ S ∨ k ∈ s) : gx (gx g0 N S) n s = gx g0 N' S' := by
  funext k
  have e1 : S'.contains k = (S.contains k || s.contains k) := by
    rw [Bool.eq_iff_iff]
    simp [hS]
  cases hb : (g0 k).or (getO N k) with
  | none =>
    have hn : gx g0 N S k = none := by unfold gx; rw [hb]; split <;> rfl
    have c1 : S.contains k = false := by
      rw [Bool.eq_false_iff]; intro h; have := h1 k (by simpa using h); rw [hn] at this; cases this
    have c2 : s.contains k = false := by
      rw [Bool.eq_false_iff]; intro h; have := h2 k (by simpa using h); rw [hn] at this; cases this
    have l1 : gx (gx g0 N S) n s k = getO n k := by
      rw [gx, c2, hn]; simp
    have l2 : gx g0 N' S' k = getO n k := by
      rw [gx, e1, c1, c2, hN, ← Option.or_assoc, hb]; simp
    rw [l1, l2]
  | some x =>
    have hg : gx g0 N S k = if S.contains k = true then some (sealObj x) else some x := by
      unfold gx; rw [hb]; rfl
    have l1 : gx (gx g0 N S) n s k = if s.contains k = true then (gx g0 N S k).map sealObj else gx g0 N S k := by
      rw [gx]
      have : (gx g0 N S k).or (getO n k) = gx g0 N S k := by rw [hg]; split <;> rfl
      rw [this]
    have l2 : gx g0 N' S' k = if S'.contains k = true then some (sealObj x) else some x := by
      rw [gx, hN, ← Option.or_assoc, hb]; rfl
    rw [l1, l2, hg, e1]
    cases S.contains k <;> cases s.contains k <;> simp [sealObj_idem]
structure PreD (call : Call) (G : Nat → AV) (σ : St) (pre : List CO) (D : List PD) : Prop where
  len : D.length = pre.length
  get : ∀ (i : Nat) (c : CO), pre[i]? = some c → ∃ p, D[i]? = some p ∧ denP1 call G σ.o (selT (fun j => decide (j < i)) D σ.t) c = some p
theorem denP1_d {o : List (Key × Ob)} {t : List AV} {p : PD} (h : denP1 call G o t c = some p) : c.dst = some p.d ∧ ∀ q ∈ p.new, q.1.1 = p.d := by
  unfold denP1 at h
  split at h
  · cases h
  · rename_i d hd
    simp only [Option.bind_eq_some_iff] at h
    obtain ⟨b, _, h⟩ := h
    cases b with
    | false => simp only [cond_false, Option.some.injEq] at h; subst h; exact ⟨hd, fun q hq => by cases hq⟩
    | true =>
      simp only [cond_true] at h
      split at h
      · simp only [Option.bind_eq_some_iff] at h
        obtain ⟨r, _, h⟩ := h
        split at h
        · rename_i hh
          cases h
          refine ⟨hd, fun q hq => ?_⟩
          simp only [Bool.and_eq_true] at hh
          simpa using List.all_eq_true.1 hh.2 q hq
        · cases h
      · cases h
theorem pre_sound (hcall : CallOk P G call) (hback : backOk ops = true) {m : Nat} (hbar : barred (masks ops.toList []) m = true) {l : List CO} (hl : l.length = ops.size) (hF : ∀ (n : Nat) (c : CO), l[n]? = some c → ∃ o, ops[n]? = some o ∧ From P ow ops c o)
    (hpre : preOk l (masks ops.toList []) m = true) {D : List PD} (hD : denPs call G σ.o (l.take m) σ.t = some D) (hd : denOs call G (l.drop m) (σ.pds D) = some σ')
    (hQ : ∀ a' w' μ', Inv G w0 S0 σ'.t (getO σ'.o) μ' a' w' → Q .normal a' w') : ∀ (fuel : Nat) (listed : Array Bool) (μ : Key → Option (Nat × Nat)) (a : Act) (w : World), unl (lst listed) ops.size = fuel → listed.size = ops.size →
    (∀ k, m ≤ k → lst listed k = false) → Closed ops (lst listed) → (∀ k ∈ selS (lst listed) D, (gx (getO σ.o) (selN (lst listed) D) (selS (lst listed) D) k).isSome) →
    Inv G w0 S0 (selT (lst listed) D σ.t) (gx (getO σ.o) (selN (lst listed) D) (selS (lst listed) D)) μ a w → wpAny P .any ops Q fuel listed a w := by
  obtain ⟨hm, hpg⟩ := pre_get hpre
  obtain ⟨hDl, hDg⟩ := denPs_get hD
  have hDl : D.length = m := by rw [hDl, List.length_take]; omega
  have hDc : ∀ (j : Nat) (p : PD), D[j]? = some p → j < m ∧ ∃ c, l[j]? = some c ∧ c.dst = some p.d ∧ (∀ q ∈ p.new, q.1.1 = p.d) ∧ denP1 call G σ.o (selT (fun k => decide (k < j)) D σ.t) c = some p := by
    intro j p hj
    have hjm : j < m := by rw [← hDl]; exact (List.getElem?_eq_some_iff.1 hj).1
    have hjl : j < l.length := by omega
    have hc : (l.take m)[j]? = some l[j] := by rw [List.getElem?_take_of_lt hjm]; exact List.getElem?_eq_getElem hjl
    obtain ⟨p', hp', h1⟩ := hDg j _ hc
    rw [hj] at hp'
    cases hp'
    exact ⟨hjm, _, List.getElem?_eq_getElem hjl, (denP1_d h1).1, (denP1_d h1).2, h1⟩
  have hdis : ∀ (j j' : Nat) (p p' : PD), D[j]? = some p → D[j']? = some p' → p'.d = p.d → j' = j := by
    intro j j' p p' hj hj' he
    obtain ⟨h1, c, h2, h3, _⟩ := hDc j p hj
    obtain ⟨h1', c', h2', h3', _⟩ := hDc j' p' hj'
    by_cases hne : j' = j
    · exact hne
    · obtain ⟨cj, d, h4, h5, h6, _⟩ := hpg j j' c' h1 h1' hne h2'
      rw [h2] at h4
      cases h4
      rw [h3] at h5
      cases h5
      rw [h3', he] at h6
      exact absurd rfl h6
  have hnk : ∀ (j : Nat) (p : PD), D[j]? = some p → ∀ q ∈ p.new, q.1.1 = p.d := fun j p hj => by
    obtain ⟨_, _, _, _, h, _⟩ := hDc j p hj
    exact h
  intro fuel
  induction fuel with
  | zero =>
    intro listed μ a w hu hs hge hcl hsd hI
    have hall := unl_zero hu
    have hmn : ops.size = m := by
      by_cases h : ops.size ≤ m
      · omega
      · have := hge m (Nat.le_refl _)
        rw [hall m (by omega)] at this
        cases this
    obtain ⟨e1, e2, e3⟩ := sel_all (D := D) (L := lst listed) (t := σ.t) fun j hj => hall j (by omega)
    rw [e1, e2, e3, ← getO_app] at hI
    exact suf_sound hcall hback hbar hl hF hQ 0 m listed (σ.pds D) μ a w (Nat.le_refl _) (by omega) hs (fun k hk => by rw [hall k hk]; simp; omega) hd hI
  | succ fuel ih =>
    intro listed μ a w hu hs hge hcl hsd hI
    by_cases hall : ∀ k, k < m → lst listed k = true
    · obtain ⟨e1, e2, e3⟩ := sel_all (D := D) (L := lst listed) (t := σ.t) fun j hj => hall j (by omega)
      rw [e1, e2, e3, ← getO_app] at hI
      have hcut : ∀ k, k < ops.size → lst listed k = decide (k < m) := fun k hk => by
        by_cases h : k < m
        · rw [hall k h]; simp [h]
        · rw [hge k (by omega)]; simp [h]
      have := unl_cut (L := lst listed) (m := m) (n := ops.size) (by omega) hcut
      exact suf_sound hcall hback hbar hl hF hQ (fuel + 1) m listed (σ.pds D) μ a w (Nat.le_refl _) (by omega) hs hcut hd hI
    · 
      have hex : ∃ k, k < m ∧ lst listed k = false := by
        rw [Classical.not_forall] at hall
        obtain ⟨k, hk⟩ := hall
        rw [Classical.not_imp] at hk
        exact ⟨k, hk.1, by simpa using hk.2⟩
      have least : ∀ n k, k < n → k < m → lst listed k = false → ∃ k, k < m ∧ lst listed k = false ∧ ∀ k', k' < k → lst listed k' = true := by
        intro n
        induction n with
        | zero => intro k h; omega
        | succ n ihn =>
          intro k hk hkm hkl
          by_cases h : ∃ k', k' < k ∧ lst listed k' = false
          · obtain ⟨k', h1, h2⟩ := h
            exact ihn k' (by omega) (by omega) h2
          · refine ⟨k, hkm, hkl, fun k' hk' => ?_⟩
            cases hl' : lst listed k' with
            | true => rfl
            | false => exact absurd ⟨k', hk', hl'⟩ h
      obtain ⟨k0, hk0, hk1⟩ := hex
      obtain ⟨i0, hi0, hi1, hi2⟩ := least (k0 + 1) k0 (by omega) hk0 hk1
      have hi0s : i0 < ops.size := by omega
      have hmem : i0 ∈ Region.ready .any ops listed := (ready_iff hs).2 ⟨_, Array.getElem?_eq_getElem hi0s, hi1, fun e he hb => hi2 _ (back_get hback (Array.getElem?_eq_getElem hi0s) e he hb)⟩
      refine ⟨fun h => absurd (h ▸ hmem) (by simp), fun k hk => ?_⟩
      obtain ⟨o, hko, h1, h2⟩ := (ready_iff hs).1 hk
      have hks := (Array.getElem?_eq_some_iff.1 hko).1
      have hms : ∀ b, ((masks ops.toList []).getD k 0).testBit b = true → lst listed b = true := masks_sound hcl (k + 1) k (by omega) o hko h2
      have hkm : k < m := by
        by_cases h : k < m
        · exact h
        · have := hms i0 (barred_get hbar hks (by omega) (by omega))
          rw [hi1] at this; cases this
      have hkD : k < D.length := by omega
      have hp : D[k]? = some D[k] := List.getElem?_eq_getElem hkD
      generalize D[k] = p at hp
      obtain ⟨_, c, hc, hcd, hpk, hden⟩ := hDc k p hp
      obtain ⟨o', ho', hfrom⟩ := hF k c hc
      rw [hko] at ho'
      cases ho'
      have hagree : Agree (selT (fun j => decide (j < k)) D σ.t) (selT (lst listed) D σ.t) (usesO c) := by
        intro s hsu
        rw [List.getD_eq_getElem?_getD, List.getD_eq_getElem?_getD]
        congr 1
        by_cases hw : ∃ j q, D[j]? = some q ∧ q.d = s ∧ j ≠ k
        · obtain ⟨j, q, hj, rfl, hjk⟩ := hw
          obtain ⟨hjm, cj, hcj, hcjd, _⟩ := hDc j q hj
          obtain ⟨cj', d', h4, h5, h6, h7⟩ := hpg j k c hjm hkm (fun h => hjk h.symm) hc
          rw [hcj] at h4
          cases h4
          rw [hcjd] at h5
          cases h5
          obtain ⟨h8, h9⟩ := h7 hsu
          rw [selT_of (j := j) hj (by simpa using h8) (fun j' p' hj' he => hdis j j' q p' hj hj' he), selT_of (j := j) hj (hms j h9) (fun j' p' hj' he => hdis j j' q p' hj hj' he)]
        · have no : ∀ (j : Nat) (q : PD), D[j]? = some q → j ≠ k → q.d ≠ s := fun j q hj hjk he => hw ⟨j, q, hj, he, hjk⟩
          rw [selT_not fun j q hj hl' => no j q hj (fun he => by subst he; simp at hl'), selT_not fun j q hj hl' => no j q hj (fun he => by subst he; rw [h1] at hl'; cases hl')]
      rw [denP1_congr hagree] at hden
      have hL' : lst (listed.setIfInBounds k true) = fun j => lst listed j || decide (j = k) := funext fun j => lst_set (by omega) j
      have hu' : unl (lst (listed.setIfInBounds k true)) ops.size = fuel := by
        have := unl_set h1 (n := ops.size) hks
        rw [hL']
        omega
      have hge' : ∀ j, m ≤ j → lst (listed.setIfInBounds k true) j = false := fun j hj => by
        rw [hL']
        show (lst listed j || decide (j = k)) = false
        rw [hge j hj]
        have : ¬ j = k := by omega
        simp [this]
      have hcl' : Closed ops (lst (listed.setIfInBounds k true)) := by
        intro j oj hj hoj e he hb
        rw [hL'] at hj ⊢
        simp only [Bool.or_eq_true, decide_eq_true_eq] at hj ⊢
        rcases hj with hj | rfl
        · exact .inl (hcl j oj hj hoj e he hb)
        · rw [hko] at hoj
          cases hoj
          exact .inl (h2 e he hb)
      have hT : selT (lst (listed.setIfInBounds k true)) D σ.t = (selT (lst listed) D σ.t).set p.d p.v := by
        apply List.ext_getElem?
        intro s
        rw [List.getElem?_set]
        by_cases hs' : p.d = s
        · subst hs'
          rw [selT_of (j := k) hp (by rw [hL']; simp) (fun j' p' hj' he => hdis k j' p p' hp hj' he), if_pos rfl, selT_len]
          by_cases hlt : p.d < σ.t.length
          · simp [hlt]
          · simp [hlt]
        · rw [if_neg hs']
          by_cases hw : ∃ j q, D[j]? = some q ∧ q.d = s ∧ lst listed j = true
          · obtain ⟨j, q, hj, rfl, hjl⟩ := hw
            rw [selT_of (j := j) hj hjl (fun j' p' hj' he => hdis j j' q p' hj hj' he), selT_of (j := j) hj (by rw [hL']; simp [hjl]) (fun j' p' hj' he => hdis j j' q p' hj hj' he)]
          · rw [selT_not fun j q hj hl' he => hw ⟨j, q, hj, he, hl'⟩, selT_not fun j q hj hl' he => ?_]
            rw [hL'] at hl'
            simp only [Bool.or_eq_true, decide_eq_true_eq] at hl'
            rcases hl' with hl' | rfl
            · exact hw ⟨j, q, hj, he, hl'⟩
            · rw [hp] at hj; cases hj; exact hs' he
      have hSm : ∀ q, q ∈ selS (lst (listed.setIfInBounds k true)) D ↔ q ∈ selS (lst listed) D ∨ q ∈ p.seals := by
        intro q
        rw [selS_mem, selS_mem, hL']
        constructor
        · rintro ⟨j, p', hj, hl', hq⟩
          simp only [Bool.or_eq_true, decide_eq_true_eq] at hl'
          rcases hl' with hl' | rfl
          · exact .inl ⟨j, p', hj, hl', hq⟩
          · rw [hp] at hj; cases hj; exact .inr hq
        · rintro (⟨j, p', hj, hl', hq⟩ | hq)
          · exact ⟨j, p', hj, by simp [hl'], hq⟩
          · exact ⟨k, p, hp, by simp, hq⟩
      have hNk : ∀ q : Key, q.1 = p.d → getO (selN (lst listed) D) q = none := fun q hq => selN_not hnk fun j p' hj hl' he => by
        have := hdis k j p p' hp hj (he.trans hq)
        subst this
        rw [h1] at hl'; cases hl'
      have hNm : ∀ q, getO (selN (lst (listed.setIfInBounds k true)) D) q = (getO (selN (lst listed) D) q).or (getO p.new q) := by
        intro q
        by_cases hq : q.1 = p.d
        · rw [selN_of (j := k) hnk hp (by rw [hL']; simp) (fun j' p' hj' he => hdis k j' p p' hp hj' he) hq, hNk q hq, Option.none_or]
        · have hn0 : getO p.new q = none := getO_none fun x hx => hq (hpk _ hx)
          rw [hn0, Option.or_none]
          by_cases hw : ∃ j q', D[j]? = some q' ∧ q'.d = q.1 ∧ lst listed j = true
          · obtain ⟨j, q', hj, he, hjl⟩ := hw
            rw [selN_of (j := j) hnk hj hjl (fun j' p' hj' he => hdis j j' q' p' hj hj' he) he.symm, selN_of (j := j) hnk hj (by rw [hL']; simp [hjl]) (fun j' p' hj' he => hdis j j' q' p' hj hj' he) he.symm]
          · rw [selN_not hnk fun j q' hj hl' he => hw ⟨j, q', hj, he, hl'⟩, selN_not hnk fun j q' hj hl' he => ?_]
            rw [hL'] at hl'
            simp only [Bool.or_eq_true, decide_eq_true_eq] at hl'
            rcases hl' with hl' | rfl
            · exact hw ⟨j, q', hj, he, hl'⟩
            · rw [hp] at hj; cases hj; exact hq he.symm
      have fin : ∀ (a' : Act) (w' : World) (μ' : Key → Option (Nat × Nat)), Inv G w0 S0 ((selT (lst listed) D σ.t).set p.d p.v) (gx (gx (getO σ.o) (selN (lst listed) D) (selS (lst listed) D)) p.new p.seals) μ' a' w' →
          (∀ q ∈ p.seals, (gx (getO σ.o) (selN (lst listed) D) (selS (lst listed) D) q).isSome) → (∀ q, (getO p.new q).isSome → gx (getO σ.o) (selN (lst listed) D) (selS (lst listed) D) q = none) → wpAny P .any ops Q fuel (listed.setIfInBounds k true) a' w' := by
        intro a' w' μ' hI' hsl hfr
        have hgx := gx_step (g0 := getO σ.o) (N := selN (lst listed) D) (S := selS (lst listed) D) hsd hsl hfr hNm hSm
        rw [hgx, ← hT] at hI'
        refine ih _ μ' a' w' hu' (by simpa using hs) hge' hcl' (fun q hq => ?_) hI'
        rw [← hgx]
        rcases (hSm q).1 hq with hq | hq
        · have := hsd q hq
          unfold gx at this ⊢
          revert this
          split <;> split <;> simp <;> (try (intro h; cases h <;> simp [*]))
        · have := hsl q hq
          unfold gx at this ⊢
          revert this
          split <;> split <;> simp <;> (try (intro h; cases h <;> simp [*]))
      unfold denP1 at hden
      rw [hcd] at hden
      simp only [Option.bind_eq_some_iff] at hden
      obtain ⟨b, hw, hden⟩ := hden
      cases b with
      | false =>
        simp only [cond_false, Option.some.injEq] at hden
        refine step_skip hI hko hfrom.guard hw fun a' w' μ' hI' => fin a' w' μ' ?_ ?_ ?_
        · rw [← hfrom.dst, hcd] at hI'
          rw [← hden]
          have : gx (gx (getO σ.o) (selN (lst listed) D) (selS (lst listed) D)) [] [] = gx (getO σ.o) (selN (lst listed) D) (selS (lst listed) D) := by
            funext q
            rw [gx]
            simp [getO]
          rw [this]
          exact hI'
        · rw [← hden]; intro q hq; cases hq
        · rw [← hden]; intro q hq; cases hq
      | true =>
        simp only [cond_true] at hden
        split at hden
        · rename_i hx
          simp only [Option.bind_eq_some_iff] at hden
          obtain ⟨r, hr, hden⟩ := hden
          split at hden
          · rename_i hh
            simp only [Bool.and_eq_true] at hh
            have hpe : p = ⟨p.d, r.x, r.new, r.seals⟩ := (Option.some.inj hden).symm
            have hfr0 := fresh_of hh.1
            have hrn : r.new = p.new := by rw [hpe]
            have hrs : r.seals = p.seals := by rw [hpe]
            have hrx : r.x = p.v := by rw [hpe]
            have hgn : ∀ q x, (q, x) ∈ r.new → gx (getO σ.o) (selN (lst listed) D) (selS (lst listed) D) q = none := by
              intro q x hq
              have e1 := (hfr0 q x hq).1
              have e2 := hNk q (hpk _ (hrn ▸ hq))
              unfold gx
              rw [e1, e2]
              split <;> rfl
            refine step_x hcall hI (fun q x hq => gx_le _ _ hq) hko (hfrom.x hr) hfrom.guard hw hx hr (fun q x hq => ⟨hgn q x hq, (hfr0 q x hq).2⟩) fun a' w' μ' hI' hsl => fin a' w' μ' ?_ ?_ ?_
            · rw [← hfrom.dst, hcd] at hI'
              rw [hrn, hrs, hrx] at hI'
              exact hI'
            · rw [← hrs]; exact hsl
            · intro q hq
              obtain ⟨x, hx'⟩ := Option.isSome_iff_exists.1 hq
              exact hgn q x (by rw [hrn]; exact getO_mem hx')
          · cases hden
        · cases hden
end
end Go.Proofs.Yticmmpiffekbiaa.Eng
namespace Go.Proofs.Yticmmpiffekbiaa.Eng
open Go Go.RowKit
def eraseK : CC → CC
  | .seq a b => .seq (eraseK a) (eraseK b)
  | .cond c a b => .cond c (eraseK a) (eraseK b)
  | .block id a => .block id (eraseK a)
  | .loop _ a => .loop [] (eraseK a)
  | x => x
def xe : XE → Exit
  | .normal => .normal
  | .exit i => .exit i
  | .ret => .ret
section
variable {P : Program} {G : Nat → AV} {w0 w w' : World} {S0 : Nat → Nat → Prop} {T : List AV} {g g' : Key → Option Ob} {μ μ' ν : Key → Option (Nat × Nat)} {a : Act} {o : Oper} {r : R} {call : Call} {g0 : Key → Option Ob} {d j : Nat} {op : COp} {ow : Nat → Bool} {f : AV → AV} {σ σ' : St}
  {ops : Array Oper} {Q : Exit → Act → World → Prop} {K : Act → World → Prop} {i : Nat} {c : CO}
theorem Inv.drew (hI : Inv G w0 S0 T g μ a w) : Inv G w0 S0 T g μ a w.drew := by
  refine hI.ext ⟨hI.below, (Below.refl _ _).drew, fun k x h => ⟨x, h, .refl x⟩, fun k _ => rfl, fun k b base h hg => ?_, hI.pl⟩ hI.inj fun k x h1 h2 => ?_
  · have := (hI.pl k b base h).1; rw [hg] at this; cases this
  · rw [h1] at h2; cases h2
theorem reg_sound (hm : P.follows .mixedOrders = true) (hcall : CallOk P G call) {draw : Bool} {id : Nat} {pre suf : List CO} (hc : cReg P ow ops draw = some (.reg pre suf)) {D : List PD} (hD : denPs call G σ.o pre σ.t = some D) (hd : denOs call G suf (σ.pds D) = some σ')
    (hI : Inv G w0 S0 σ.t (getO σ.o) μ a w) (hQ : ∀ a' w' μ', Inv G w0 S0 σ'.t (getO σ'.o) μ' a' w' → Q .normal a' w') : (Code.region id ops draw).wp P Q a w := by
  unfold cReg at hc
  simp only [Option.bind_eq_some_iff] at hc
  obtain ⟨l, hl, hc⟩ := hc
  obtain ⟨h1, h2⟩ := cOs_from hl
  have h1 : l.length = ops.size := by rw [h1, Array.length_toList]
  have h2 : ∀ (n : Nat) (c : CO), l[n]? = some c → ∃ o, ops[n]? = some o ∧ From P ow ops c o := fun n c hn => by
    obtain ⟨o, ho, hF⟩ := h2 n c hn
    exact ⟨o, by rw [← Array.getElem?_toList]; exact ho, hF⟩
  cases draw with
  | false =>
    simp only [cond_false, Option.some.injEq, CC.reg.injEq] at hc
    obtain ⟨rfl, rfl⟩ := hc
    simp only [denPs, Option.some.injEq] at hD
    subst hD
    have hs : σ.pds [] = σ := by simp [St.pds, sealO]
    rw [hs] at hd
    refine wp_region ?_
    rw [List.range_eq_range', ← h1]
    exact Os_sound hcall l 0 σ μ a w (fun n c hn => by rw [Nat.zero_add]; exact h2 n c hn) hd hI hQ
  | true =>
    simp only [cond_true] at hc
    split at hc
    · rename_i hh
      simp only [Bool.and_eq_true] at hh
      obtain ⟨⟨hp, hb⟩, hbk⟩ := hh
      simp only [Option.some.injEq, CC.reg.injEq] at hc
      obtain ⟨rfl, rfl⟩ := hc
      refine wp_region_any hm ?_
      have hls : lst (Array.replicate ops.size false) = fun _ => false := by
        funext k
        simp only [lst, Array.getD_eq_getD_getElem?, Array.getElem?_replicate]
        split <;> rfl
      obtain ⟨e1, e2, e3⟩ := sel_none (D := D) (L := fun _ => false) (t := σ.t) (fun _ => rfl)
      refine pre_sound hcall hbk hb h1 h2 hp hD hd hQ ops.size _ μ a w.drew ?_ (by simp) (fun k _ => by rw [hls]) ?_ ?_ ?_
      · rw [hls]
        have := unl_cut (L := fun _ => false) (m := 0) (n := ops.size) (Nat.zero_le _) (fun k _ => by simp)
        simpa using this
      · rw [hls]; intro i o h; cases h
      · rw [hls, e3]; intro k hk; cases hk
      · rw [hls, e1, e2, e3]
        have : gx (getO σ.o) [] [] = getO σ.o := by funext k; simp [gx, getO]
        rw [this]
        exact hI.drew
    · cases hc
def maskOb (keep : List Nat) : Ob → Ob
  | .var cs s => .var (cs.map fun c => if ok1 keep c then c else .undef) s
  | x => x
theorem maskO_get (keep : List Nat) : ∀ (o : List (Key × Ob)) (k : Key), getO (maskO keep o) k = if keep.contains k.1 then (getO o k).map (maskOb keep) else none
  | [], k => by simp [maskO, getO]
  | (k0, x) :: o, k => by
    have ih := maskO_get keep o k
    simp only [maskO]
    by_cases h : keep.contains k0.1 = true
    · rw [if_pos h]
      simp only [getO]
      by_cases he : k0 = k
      · subst he
        rw [if_pos rfl, if_pos rfl, if_pos h]
        cases x <;> rfl
      · rw [if_neg he, if_neg he, ih]
    · rw [if_neg h, ih]
      simp only [getO]
      by_cases he : k0 = k
      · subst he; rw [if_neg h, if_neg h]
      · rw [if_neg he]
theorem maskT_get (keep : List Nat) : ∀ (t : List AV) (i n : Nat), (maskT keep i t).length = t.length ∧ (maskT keep i t)[n]? = (t[n]?).map fun x => if (keep.contains (i + n) && okT keep x) = true then x else .undef
  | [], i, n => ⟨rfl, by simp [maskT]⟩
  | x :: t, i, n => by
    refine ⟨by simp [maskT, (maskT_get keep t (i + 1) 0).1], ?_⟩
    cases n with
    | zero => simp [maskT]
    | succ n =>
      simp only [maskT, List.getElem?_cons_succ]
      rw [(maskT_get keep t (i + 1) n).2]
      rw [show i + 1 + n = i + (n + 1) by omega]
theorem mask_rep1 {keep : List Nat} {C C' : Ctx} (hw : C'.w = C.w) (hS : ∀ b i, C.S b i → C'.S b i) (hg : ∀ k : Key, keep.contains k.1 = true → C'.g k = (C.g k).map (maskOb keep) ∧ C'.μ k = C.μ k) {c : AV} {x : Value} (hk : ok1 keep c = true) (h : LRep1 C c x) : LRep1 C' c x := by
  have F : ∀ {c : AV} {x : Value}, FRep C.w C.S c x → FRep C'.w C'.S c x := fun h => h.mono fun b i hs => ⟨hS b i hs, by rw [hw]⟩
  have own : ∀ {k : Key} {b i : Nat}, keep.contains k.1 = true → Own C k b i → Own C' k b i := by
    rintro k b i hk ⟨base, len, sz, mu, shr, h1, h2, h3⟩
    obtain ⟨h4, h5⟩ := hg k hk
    exact ⟨base, len, sz, mu, shr, by rw [h5]; exact h1, by rw [h4, h2]; rfl, h3⟩
  cases c with
  | undef => trivial
  | nilsl => exact h
  | asl k es =>
    obtain ⟨len, sz, mu, shr, h1, h2, h3, h4, h5⟩ := h
    obtain ⟨h6, h7⟩ := hg k hk
    refine ⟨len, sz, mu, shr, by rw [h6, h1]; rfl, h2, h3, h4, ?_⟩
    rcases h5 with ⟨h5, h8, h9⟩ | ⟨b, o, cap, X, h5, hcap, h8, h9⟩
    · exact .inl ⟨h5, h8, fun h => by rw [h7]; exact h9 h⟩
    · refine .inr ⟨b, o, cap, X, h5, hcap, fun h => ?_, fun i e j c he hc => ?_⟩
      · rw [h7, hw]; exact h8 h
      · obtain ⟨a1, a2, a3, a4⟩ := h9 i e j c he hc
        exact ⟨a1.imp (hS _ _) (own hk), by rw [hw]; exact a2, a3, F a4⟩
  | ptr k o =>
    obtain ⟨b, cs, s, h1, h2, h3⟩ := h
    obtain ⟨h6, h7⟩ := hg k hk
    exact ⟨b, _, s, by rw [h6, h1]; rfl, by rw [h7]; exact h2, h3⟩
  | eptr k i o cs =>
    obtain ⟨b, q, len, sz, mu, shr, X, h1, h2, h3, h4⟩ := h
    obtain ⟨h6, h7⟩ := hg k hk
    refine ⟨b, q, len, sz, mu, shr, X, by rw [h6, h1]; rfl, h2, fun h => by rw [h7]; exact h3 h, fun j c hc => ?_⟩
    obtain ⟨a1, a2, a3, a4⟩ := h4 j c hc
    exact ⟨a1.imp (hS _ _) (own hk), by rw [hw]; exact a2, a3, F a4⟩
  | mp k => exact h.elim
  | it k => exact h.elim
  | agg cs => exact h.elim
  | tup cs => exact h.elim
  | own sz m es => exact h.elim
  | v y => exact F h
  | fsl es => exact F h
  | fptr cs => exact F h
  | fn f cs => exact F h
  | iface t y => exact F h
theorem mask_repA {keep : List Nat} {C C' : Ctx} (hw : C'.w = C.w) (hS : ∀ b i, C.S b i → C'.S b i) (hg : ∀ k : Key, keep.contains k.1 = true → C'.g k = (C.g k).map (maskOb keep) ∧ C'.μ k = C.μ k) {c : AV} {x : Value} (hk : okA keep c = true) (h : LRepA C c x) : LRepA C' c x := by
  cases c with
  | agg cs =>
    obtain ⟨vs, h1, h2, h3⟩ := h
    refine ⟨vs, h1, h2, fun j c x hc hx => ⟨mask_rep1 hw hS hg ?_ (h3 j c x hc hx).1, (h3 j c x hc hx).2⟩⟩
    exact List.all_eq_true.1 hk c (List.mem_of_getElem? hc)
  | _ => simp only [LRepA] at h ⊢; exact mask_rep1 hw hS hg hk h
theorem mask_rep {keep : List Nat} {C C' : Ctx} (hw : C'.w = C.w) (hS : ∀ b i, C.S b i → C'.S b i) (hg : ∀ k : Key, keep.contains k.1 = true → C'.g k = (C.g k).map (maskOb keep) ∧ C'.μ k = C.μ k) {c : AV} {x : Value} (hk : okT keep c = true) (h : LRep C c x) : LRep C' c x := by
  cases c with
  | tup cs =>
    obtain ⟨vs, h1, h2, h3⟩ := h
    refine ⟨vs, h1, h2, fun j c x hc hx => mask_repA hw hS hg ?_ (h3 j c x hc hx)⟩
    exact List.all_eq_true.1 hk c (List.mem_of_getElem? hc)
  | _ => simp only [LRep] at h ⊢; exact mask_repA hw hS hg hk h
theorem Inv.mask (hI : Inv G w0 S0 σ.t (getO σ.o) μ a w) (keep : List Nat) : ∃ μ', Inv G w0 S0 (σ.mask keep).t (getO (σ.mask keep).o) μ' a w := by
  let μ' : Key → Option (Nat × Nat) := fun k => if keep.contains k.1 then μ k else none
  have hμ' : ∀ k b base, μ' k = some (b, base) → keep.contains k.1 = true ∧ μ k = some (b, base) := by
    intro k b base h
    simp only [μ'] at h
    split at h
    · rename_i hk; exact ⟨hk, h⟩
    · cases h
  have hS : ∀ b i, Stab w0 S0 w (getO σ.o) μ b i → Stab w0 S0 w (getO (σ.mask keep).o) μ' b i := by
    intro b i h
    rcases h with h | ⟨h1, h2, h3⟩
    · exact .inl h
    · refine .inr ⟨h1, h2, fun k base hk => ?_⟩
      obtain ⟨hk1, hk2⟩ := hμ' k b base hk
      have := h3 k base hk2
      show Cov (getO (maskO keep σ.o) k) base i
      rw [maskO_get, if_pos hk1]
      cases hg : getO σ.o k with
      | none => rw [hg] at this; exact this
      | some x => rw [hg] at this; cases x <;> exact this
  have hg : ∀ k : Key, keep.contains k.1 = true → (mkC w0 S0 w (getO (σ.mask keep).o) μ').g k = ((mkC w0 S0 w (getO σ.o) μ).g k).map (maskOb keep) ∧ (mkC w0 S0 w (getO (σ.mask keep).o) μ').μ k = (mkC w0 S0 w (getO σ.o) μ).μ k := by
    intro k hk
    refine ⟨?_, ?_⟩
    · show getO (maskO keep σ.o) k = _
      rw [maskO_get, if_pos hk]
      rfl
    · show (if keep.contains k.1 then μ k else none) = μ k
      rw [if_pos hk]
  have hinj : ∀ k k' b i i', μ' k = some (b, i) → μ' k' = some (b, i') → k = k' := fun k k' b i i' h h' => hI.inj _ _ _ _ _ (hμ' _ _ _ h).2 (hμ' _ _ _ h').2
  refine ⟨μ', hI.below, ?_, fun i c hc => ?_, fun k x hx => ?_, fun k b base h => ?_, hinj, hI.df, hI.laid, fun n => (hI.gl n).imp id fun h => h.mono fun b i hs => ⟨hS b i hs, rfl⟩⟩
  · show (maskT keep 0 σ.t).length = _
    rw [(maskT_get keep σ.t 0 0).1]; exact hI.len
  · have hc : (maskT keep 0 σ.t)[i]? = some c := hc
    rw [(maskT_get keep σ.t 0 i).2, Option.map_eq_some_iff] at hc
    obtain ⟨c0, hc0, rfl⟩ := hc
    obtain ⟨x, h1, h2⟩ := hI.tmp i c0 hc0
    refine ⟨x, h1, ?_⟩
    split
    · rename_i hk
      simp only [Bool.and_eq_true] at hk
      exact mask_rep (C := mkC w0 S0 w (getO σ.o) μ) (C' := mkC w0 S0 w (getO (σ.mask keep).o) μ') rfl hS hg hk.2 h2
    · trivial
  · have hx : getO (maskO keep σ.o) k = some x := hx
    rw [maskO_get] at hx
    split at hx
    · rename_i hk
      rw [Option.map_eq_some_iff] at hx
      obtain ⟨y, hy, rfl⟩ := hx
      have := hI.ob k y hy
      have hμk := (hg k hk).2
      cases y with
      | var cs s =>
        obtain ⟨b, xs, ty, h1, h2, h3, h4⟩ := this
        refine ⟨b, xs, ty, hμk.trans h1, h2, by rw [h3]; simp, fun i c x hc hx => ?_⟩
        rw [List.getElem?_map, Option.map_eq_some_iff] at hc
        obtain ⟨c0, hc0, rfl⟩ := hc
        obtain ⟨h5, h6⟩ := h4 i c0 x hc0 hx
        refine ⟨?_, h6⟩
        split
        · rename_i ho
          exact mask_rep1 (C := mkC w0 S0 w (getO σ.o) μ) (C' := mkC w0 S0 w (getO (σ.mask keep).o) μ') rfl hS hg ho h5
        · trivial
      | tail len sz mu shr =>
        refine ⟨this.1, ?_⟩
        rcases this.2 with ⟨h1, h2⟩ | ⟨b, base, xs, ty, h1, h2, h3⟩
        · exact .inl ⟨hμk.trans h1, h2⟩
        · exact .inr ⟨b, base, xs, ty, hμk.trans h1, h2, h3⟩
      | map es => exact this.elim
      | siter s p => exact this.elim
    · cases hx
  · obtain ⟨hk, h1⟩ := hμ' k b base h
    have := hI.pl k b base h1
    refine ⟨?_, this.2⟩
    show (getO (maskO keep σ.o) k).isSome = true
    rw [maskO_get, if_pos hk]
    simpa using this.1
theorem C_sound (hm : P.follows .mixedOrders = true) (hcall : CallOk P G call) {n : Nat} : ∀ (c : Code) (cc : CC) (σ : St) (e : XE) (σ' : St) (Q : Exit → Act → World → Prop) (μ : Key → Option (Nat × Nat)) (a : Act) (w : World), cC P ow c = eraseK cc → denC call G n cc σ = some (e, σ') →
    Inv G w0 S0 σ.t (getO σ.o) μ a w → (∀ a' w' μ', Inv G w0 S0 σ'.t (getO σ'.o) μ' a' w' → Q (xe e) a' w') → c.wp P Q a w
  | .skip, cc, σ, e, σ', Q, μ, a, w, hc, hd, hI, hQ => by
    cases cc <;> simp only [cC, eraseK, reduceCtorEq] at hc
    simp only [denC, Option.some.injEq, Prod.mk.injEq] at hd
    obtain ⟨rfl, rfl⟩ := hd
    exact wp_skip (hQ _ _ _ hI)
  | .exit id, cc, σ, e, σ', Q, μ, a, w, hc, hd, hI, hQ => by
    cases cc <;> simp only [cC, eraseK, reduceCtorEq, CC.exit.injEq] at hc
    subst hc
    simp only [denC, Option.some.injEq, Prod.mk.injEq] at hd
    obtain ⟨rfl, rfl⟩ := hd
    exact wp_exit (hQ _ _ _ hI)
  | .ret, cc, σ, e, σ', Q, μ, a, w, hc, hd, hI, hQ => by
    cases cc <;> simp only [cC, eraseK, reduceCtorEq] at hc
    simp only [denC, Option.some.injEq, Prod.mk.injEq] at hd
    obtain ⟨rfl, rfl⟩ := hd
    exact wp_ret (hQ _ _ _ hI)
  | .region id ops draw, cc, σ, e, σ', Q, μ, a, w, hc, hd, hI, hQ => by
    have hr : cc = .bad ∨ ∃ pre suf, cc = .reg pre suf ∧ cReg P ow ops draw = some (.reg pre suf) := by
      simp only [cC] at hc
      cases hq : cReg P ow ops draw with
      | none =>
        rw [hq] at hc
        cases cc <;> simp [eraseK] at hc
        exact .inl rfl
      | some q =>
        rw [hq] at hc
        have hq' := hq
        unfold cReg at hq'
        simp only [Option.bind_eq_some_iff] at hq'
        obtain ⟨l, _, hq'⟩ := hq'
        have hs : ∃ pre suf, q = .reg pre suf := by
          cases draw with
          | false => simp at hq'; exact ⟨_, _, hq'.symm⟩
          | true =>
            simp only [cond_true] at hq'
            split at hq'
            · simp at hq'; exact ⟨_, _, hq'.symm⟩
            · cases hq'
        obtain ⟨pre, suf, rfl⟩ := hs
        simp only [Option.getD_some] at hc
        cases cc <;> simp only [eraseK, reduceCtorEq] at hc
        exact .inr ⟨_, _, rfl, by rw [hc]⟩
    rcases hr with rfl | ⟨pre, suf, rfl, hcr⟩
    · simp [denC] at hd
    simp only [denC, Option.bind_eq_some_iff, Option.some.injEq, Prod.mk.injEq] at hd
    obtain ⟨D, hD, σ1, h1, rfl, rfl⟩ := hd
    exact reg_sound hm hcall hcr hD h1 hI hQ
  | .seq x y, cc, σ, e, σ', Q, μ, a, w, hc, hd, hI, hQ => by
    cases cc <;> simp only [cC, eraseK, reduceCtorEq, CC.seq.injEq] at hc
    rename_i ca cb
    obtain ⟨hx, hy⟩ := hc
    simp only [denC, Option.bind_eq_some_iff] at hd
    obtain ⟨⟨e1, σ1⟩, h1, h2⟩ := hd
    refine wp_seq (C_sound hm hcall x ca σ e1 σ1 _ μ a w hx h1 hI fun a' w' μ' hI' => ?_)
    cases e1 with
    | normal => exact C_sound hm hcall y cb σ1 e σ' Q μ' a' w' hy h2 hI' hQ
    | exit i =>
      simp only [Option.some.injEq, Prod.mk.injEq] at h2
      obtain ⟨rfl, rfl⟩ := h2
      exact hQ _ _ _ hI'
    | ret =>
      simp only [Option.some.injEq, Prod.mk.injEq] at h2
      obtain ⟨rfl, rfl⟩ := h2
      exact hQ _ _ _ hI'
  | .cond b x y, cc, σ, e, σ', Q, μ, a, w, hc, hd, hI, hQ => by
    cases cc <;> simp only [cC, eraseK, reduceCtorEq, CC.cond.injEq] at hc
    rename_i cb ca cb'
    obtain ⟨rfl, hx, hy⟩ := hc
    have hb := hI.ev b
    simp only [denC] at hd
    split at hd
    · rename_i v hv
      rw [hv] at hb
      have hb := hb.v_inv
      cases v with
      | true => simp only [if_true] at hd; exact wp_cond_true hb (C_sound hm hcall x ca σ e σ' Q μ a w hx hd hI hQ)
      | false => simp only [Bool.false_eq_true, if_false] at hd; exact wp_cond_false hb (C_sound hm hcall y cb' σ e σ' Q μ a w hy hd hI hQ)
    · cases hd
  | .block id x, cc, σ, e, σ', Q, μ, a, w, hc, hd, hI, hQ => by
    cases cc <;> simp only [cC, eraseK, reduceCtorEq, CC.block.injEq] at hc
    rename_i id' ca
    obtain ⟨rfl, hx⟩ := hc
    simp only [denC, Option.bind_eq_some_iff] at hd
    obtain ⟨⟨e1, σ1⟩, h1, h2⟩ := hd
    refine wp_block (C_sound hm hcall x ca σ e1 σ1 _ μ a w hx h1 hI fun a' w' μ' hI' => ?_)
    cases e1 with
    | normal =>
      simp only [Option.some.injEq, Prod.mk.injEq] at h2
      obtain ⟨rfl, rfl⟩ := h2
      exact hQ _ _ _ hI'
    | exit i =>
      simp only at h2
      show (if i = id then _ else _)
      split at h2
      · rename_i he
        rw [if_pos he]
        simp only [Option.some.injEq, Prod.mk.injEq] at h2
        obtain ⟨rfl, rfl⟩ := h2
        exact hQ _ _ _ hI'
      · rename_i he
        rw [if_neg he]
        simp only [Option.some.injEq, Prod.mk.injEq] at h2
        obtain ⟨rfl, rfl⟩ := h2
        exact hQ _ _ _ hI'
    | ret =>
      simp only [Option.some.injEq, Prod.mk.injEq] at h2
      obtain ⟨rfl, rfl⟩ := h2
      exact hQ _ _ _ hI'
  | .loop x, cc, σ, e, σ', Q, μ, a, w, hc, hd, hI, hQ => by
    cases cc <;> simp only [cC, eraseK, reduceCtorEq, CC.loop.injEq] at hc
    rename_i keep ca
    obtain ⟨_, hx⟩ := hc
    simp only [denC] at hd
    have key : ∀ (m : Nat) (σ : St) (μ : Key → Option (Nat × Nat)) (a : Act) (w : World), denC.rounds keep (denC call G n ca) m σ = some (e, σ') → Inv G w0 S0 σ.t (getO σ.o) μ a w → Code.rounds P x Q m a w := by
      intro m
      induction m with
      | zero => intro σ μ a w h; simp [denC.rounds] at h
      | succ m ih =>
        intro σ μ a w h hI
        simp only [denC.rounds, Option.bind_eq_some_iff] at h
        obtain ⟨⟨e1, σ1⟩, h1, h2⟩ := h
        obtain ⟨μ', hI1⟩ := hI.mask keep
        refine C_sound hm hcall x ca (σ.mask keep) e1 σ1 _ μ' a w hx h1 hI1 fun a' w' μ'' hI' => ?_
        cases e1 with
        | normal => exact ih σ1 μ'' a' w' h2 hI'
        | exit i =>
          simp only [Option.some.injEq, Prod.mk.injEq] at h2
          obtain ⟨rfl, rfl⟩ := h2
          exact hQ _ _ _ hI'
        | ret =>
          simp only [Option.some.injEq, Prod.mk.injEq] at h2
          obtain ⟨rfl, rfl⟩ := h2
          exact hQ _ _ _ hI'
    exact wp_loop_rounds n (key n σ μ a w hd hI)
  | .rangeFunc .., cc, σ, e, σ', Q, μ, a, w, hc, hd, hI, hQ => by
    cases cc <;> simp only [cC, eraseK, reduceCtorEq] at hc
    simp [denC] at hd
  | .scope _, cc, σ, e, σ', Q, μ, a, w, hc, hd, hI, hQ => by
    cases cc <;> simp only [cC, eraseK, reduceCtorEq] at hc
    simp [denC] at hd
  | .label _, cc, σ, e, σ', Q, μ, a, w, hc, hd, hI, hQ => by
    cases cc <;> simp only [cC, eraseK, reduceCtorEq] at hc
    simp [denC] at hd
  | .goto _, cc, σ, e, σ', Q, μ, a, w, hc, hd, hI, hQ => by
    cases cc <;> simp only [cC, eraseK, reduceCtorEq] at hc
    simp [denC] at hd
  | .refuse _, cc, σ, e, σ', Q, μ, a, w, hc, hd, hI, hQ => by
    cases cc <;> simp only [cC, eraseK, reduceCtorEq] at hc
    simp [denC] at hd
end
end Go.Proofs.Yticmmpiffekbiaa.Eng
namespace Go.Proofs.Yticmmpiffekbiaa.Eng
open Go Go.RowKit
theorem count_one {α β : Type} [BEq β] [LawfulBEq β] {f : α → List β} {k : β} {l : List α} {m : Nat} {x : α} (h : l[m]? = some x) : (f x).count k ≤ (l.flatMap f).count k := by
  induction l generalizing m with
  | nil => simp at h
  | cons y l ih =>
    rw [List.flatMap_cons, List.count_append]
    cases m with
    | zero => simp at h; subst h; omega
    | succ m => have := ih (m := m) (by simpa using h); omega
theorem count_two {α β : Type} [BEq β] [LawfulBEq β] {f : α → List β} {k : β} {l : List α} {m m' : Nat} {x y : α} (h : l[m]? = some x) (h' : l[m']? = some y) (hlt : m < m') : (f x).count k + (f y).count k ≤ (l.flatMap f).count k := by
  induction l generalizing m m' with
  | nil => simp at h
  | cons z l ih =>
    rw [List.flatMap_cons, List.count_append]
    obtain ⟨m', rfl⟩ : ∃ n, m' = n + 1 := ⟨m' - 1, by omega⟩
    cases m with
    | zero =>
      simp at h
      subst h
      have := count_one (f := f) (k := k) (l := l) (m := m') (x := y) (by simpa using h')
      omega
    | succ m =>
      have := ih (m := m) (m' := m') (by simpa using h) (by simpa using h') (by omega)
      omega
def atm (rs : List AV) (m i : Nat) : Option AV := (rs[m]?).bind fun r => (cellsOf r)[i]?
theorem keys_cells (x : AV) : keys x = (cellsOf x).flatMap keys1 := by
  cases x <;> simp [keys, cellsOf]
theorem atm_uniq {rs : List AV} {k : Key} {m i m' i' : Nat} {es es' : List (List AV)} (h : atm rs m i = some (.asl k es)) (h' : atm rs m' i' = some (.asl k es')) (hc : (allKeys rs).count k = 1) : m = m' ∧ i = i' := by
  unfold atm at h h'
  simp only [Option.bind_eq_some_iff] at h h'
  obtain ⟨r, hr, hi⟩ := h
  obtain ⟨r', hr', hi'⟩ := h'
  have k1 : ∀ {r : AV} {i : Nat} {es : List (List AV)}, (cellsOf r)[i]? = some (.asl k es) → 1 ≤ (keys r).count k := by
    intro r i es h
    rw [keys_cells]
    have := count_one (f := keys1) (k := k) h
    simpa [keys1] using this
  have hm : m = m' := by
    rcases Nat.lt_trichotomy m m' with h | h | h
    · have := count_two (f := keys) (k := k) hr hr' h
      have h1 := k1 hi; have h2 := k1 hi'
      unfold allKeys at hc
      omega
    · exact h
    · have := count_two (f := keys) (k := k) hr' hr h
      have h1 := k1 hi; have h2 := k1 hi'
      unfold allKeys at hc
      omega
  subst hm
  rw [hr] at hr'
  cases hr'
  refine ⟨rfl, ?_⟩
  have hone := count_one (f := keys) (k := k) hr
  unfold allKeys at hc
  rcases Nat.lt_trichotomy i i' with h | h | h
  · have := count_two (f := keys1) (k := k) hi hi' h
    rw [← keys_cells] at this
    simp [keys1] at this
    omega
  · exact h
  · have := count_two (f := keys1) (k := k) hi' hi h
    rw [← keys_cells] at this
    simp [keys1] at this
    omega
theorem exp1_shape {o : List (Key × Ob)} {ks : List Key} {c c' : AV} (h : exp1 o ks c = some c') : cellsOf c' = [c'] ∧ cellsOf c = [c] := by
  unfold exp1 at h
  split at h
  · split at h
    · simp only [Option.some.injEq] at h
      subst h
      split <;> exact ⟨rfl, rfl⟩
    · cases h
  · cases c <;> simp only [frz1, Option.some.injEq, reduceCtorEq] at h <;> subst h <;> exact ⟨rfl, rfl⟩
theorem exp1_nt {o : List (Key × Ob)} {ks : List Key} {c c' : AV} (h : exp1 o ks c = some c') : (∀ vs, c' ≠ .tup vs) ∧ ∀ vs, c' ≠ .agg vs := by
  unfold exp1 at h
  split at h
  · split at h
    · simp only [Option.some.injEq] at h
      subst h
      split <;> exact ⟨fun _ h => (by cases h), fun _ h => (by cases h)⟩
    · cases h
  · cases c <;> simp only [frz1, Option.some.injEq, reduceCtorEq] at h <;> subst h <;> exact ⟨fun _ h => (by cases h), fun _ h => (by cases h)⟩
theorem expL_get {o : List (Key × Ob)} {ks : List Key} : ∀ {cs cs' : List AV}, expL o ks cs = some cs' → cs'.length = cs.length ∧ ∀ (i : Nat) (c : AV), cs[i]? = some c → ∃ c', cs'[i]? = some c' ∧ exp1 o ks c = some c'
  | [], cs', h => by simp [expL] at h; subst h; exact ⟨rfl, fun i c h => by simp at h⟩
  | x :: cs, cs', h => by
    simp only [expL, Option.bind_eq_some_iff, Option.some.injEq] at h
    obtain ⟨y, hy, m, hm, rfl⟩ := h
    obtain ⟨h1, h2⟩ := expL_get hm
    refine ⟨by simp [h1], fun i c hc => ?_⟩
    cases i with
    | zero => simp at hc; subst hc; exact ⟨y, rfl, hy⟩
    | succ i => exact h2 i c (by simpa using hc)
theorem expA_get {o : List (Key × Ob)} {ks : List Key} {r r' : AV} (h : expA o ks r = some r') : (cellsOf r').length = (cellsOf r).length ∧ (∀ (i : Nat) (c : AV), (cellsOf r)[i]? = some c → ∃ c', (cellsOf r')[i]? = some c' ∧ exp1 o ks c = some c') ∧
    ((∃ cs cs', r = .agg cs ∧ r' = .agg cs') ∨ exp1 o ks r = some r') := by
  cases r with
  | agg cs =>
    simp only [expA, Option.map_eq_some_iff] at h
    obtain ⟨cs', hc, rfl⟩ := h
    obtain ⟨h1, h2⟩ := expL_get hc
    exact ⟨h1, h2, .inl ⟨cs, cs', rfl, rfl⟩⟩
  | _ =>
    simp only [expA] at h
    obtain ⟨h1, h2⟩ := exp1_shape h
    rw [h1, h2]
    refine ⟨rfl, fun i c hc => ?_, .inr h⟩
    match i with
    | 0 => simp at hc; subst hc; exact ⟨r', rfl, h⟩
    | i + 1 => simp at hc
theorem expT_get {o : List (Key × Ob)} {ks : List Key} : ∀ {rs l : List AV}, expT o ks rs = some l → l.length = rs.length ∧ ∀ (m : Nat) (r : AV), rs[m]? = some r → ∃ r', l[m]? = some r' ∧ expA o ks r = some r'
  | [], l, h => by simp [expT] at h; subst h; exact ⟨rfl, fun i c h => by simp at h⟩
  | x :: rs, l, h => by
    simp only [expT, Option.bind_eq_some_iff, Option.some.injEq] at h
    obtain ⟨y, hy, m, hm, rfl⟩ := h
    obtain ⟨h1, h2⟩ := expT_get hm
    refine ⟨by simp [h1], fun i c hc => ?_⟩
    cases i with
    | zero => simp at hc; subst hc; exact ⟨y, rfl, hy⟩
    | succ i => exact h2 i c (by simpa using hc)
theorem atm_exp {o : List (Key × Ob)} {ks : List Key} {rs l : List AV} (h : expT o ks rs = some l) {m i : Nat} {c' : AV} (hc : atm l m i = some c') : ∃ c, atm rs m i = some c ∧ exp1 o ks c = some c' := by
  unfold atm at hc ⊢
  simp only [Option.bind_eq_some_iff] at hc
  obtain ⟨r', hr', hi⟩ := hc
  obtain ⟨h1, h2⟩ := expT_get h
  have hlt : m < rs.length := by rw [← h1]; exact (List.getElem?_eq_some_iff.1 hr').1
  obtain ⟨r1, hr1, he⟩ := h2 m _ (List.getElem?_eq_getElem hlt)
  rw [hr'] at hr1
  cases hr1
  obtain ⟨h3, h4, _⟩ := expA_get he
  have hilt : i < (cellsOf rs[m]).length := by rw [← h3]; exact (List.getElem?_eq_some_iff.1 hi).1
  obtain ⟨c1, hc1, he1⟩ := h4 i _ (List.getElem?_eq_getElem hilt)
  rw [hi] at hc1
  cases hc1
  exact ⟨_, by rw [List.getElem?_eq_getElem hlt]; exact List.getElem?_eq_getElem hilt, he1⟩
def ownOb : AV → Option Ob
  | .own sz mu es => some (.tail es.length sz mu !mu)
  | _ => none
theorem getO_imp1 (d j : Nat) (c : AV) (q : Key) : getO (imp1 d j c).2 q = if q = (d, j) then ownOb c else none := by
  cases c <;> simp only [imp1, getO, ownOb]
  case own sz mu es =>
    by_cases h : q = (d, j)
    · subst h; simp
    · rw [if_neg h, if_neg fun e => h e.symm]
  all_goals (split <;> rfl)
theorem getO_impL (d : Nat) (q : Key) : ∀ (cs : List AV) (j : Nat), getO (impL d j cs).2 q = if q.1 = d ∧ j ≤ q.2 then (cs[q.2 - j]?).bind ownOb else none
  | [], j => by simp [impL, getO]
  | x :: cs, j => by
    simp only [impL]
    rw [getO_append, getO_imp1, getO_impL d q cs (j + 1)]
    obtain ⟨q1, q2⟩ := q
    by_cases h1 : q1 = d
    · subst h1
      by_cases h2 : q2 = j
      · subst h2
        have : ¬ (q2 + 1 ≤ q2) := by omega
        simp [this]
      · by_cases h3 : j ≤ q2
        · have h4 : j + 1 ≤ q2 := by omega
          have h5 : q2 - j = (q2 - (j + 1)) + 1 := by omega
          simp [h2, h3, h4, h5]
        · have h4 : ¬ j + 1 ≤ q2 := by omega
          simp [h2, h3, h4]
    · simp [h1]
theorem getO_impA (d j : Nat) (q : Key) (x : AV) : getO (impA d j x).2 q = if q.1 = d ∧ j ≤ q.2 then ((cellsOf x)[q.2 - j]?).bind ownOb else none := by
  have one : getO (imp1 d j x).2 q = if q.1 = d ∧ j ≤ q.2 then (([x] : List AV)[q.2 - j]?).bind ownOb else none := by
    rw [getO_imp1]
    obtain ⟨q1, q2⟩ := q
    by_cases h1 : q1 = d
    · subst h1
      by_cases h2 : q2 = j
      · subst h2; simp
      · by_cases h3 : j ≤ q2
        · have h5 : q2 - j = (q2 - (j + 1)) + 1 := by omega
          simp [h2, h3, h5]
        · simp [h2, h3]
    · simp [h1]
  cases x with
  | agg cs => exact getO_impL d q cs j
  | _ => exact one
theorem getO_impT (d : Nat) (q : Key) : ∀ (vs : List AV) (j : Nat), (∀ v ∈ vs, (cellsOf v).length ≤ 100) → getO (impT d j vs).2 q = if q.1 = d ∧ j ≤ q.2 then (atm vs ((q.2 - j) / 100) ((q.2 - j) % 100)).bind ownOb else none
  | [], j, _ => by simp [impT, getO, atm]
  | x :: vs, j, h => by
    simp only [impT]
    rw [getO_append, getO_impA, getO_impT d q vs (j + 100) fun v hv => h v (List.mem_cons_of_mem _ hv)]
    have hx := h x List.mem_cons_self
    obtain ⟨q1, q2⟩ := q
    by_cases h1 : q1 = d
    · subst h1
      by_cases h3 : j ≤ q2
      · by_cases h4 : j + 100 ≤ q2
        · have h5 : (cellsOf x)[q2 - j]? = none := List.getElem?_eq_none (by omega)
          have h6 : (q2 - j) / 100 = (q2 - (j + 100)) / 100 + 1 := by omega
          have h7 : (q2 - j) % 100 = (q2 - (j + 100)) % 100 := by omega
          simp only [h3, h4, and_self, if_true, h5, h6, h7, Option.bind_none, Option.none_or]
          rfl
        · have h6 : (q2 - j) / 100 = 0 := by omega
          have h7 : (q2 - j) % 100 = q2 - j := by omega
          simp only [h3, h4, and_self, and_false, if_true, if_false, h6, h7, Option.or_none]
          rfl
      · have h4 : ¬ j + 100 ≤ q2 := by omega
        simp [h3, h4]
    · simp [h1]
end Go.Proofs.Yticmmpiffekbiaa.Eng
namespace Go.Proofs.Yticmmpiffekbiaa.Eng
open Go Go.RowKit
section
variable {P : Program} {G : Nat → AV} {w0 w w' : World} {S0 : Nat → Nat → Prop} {T : List AV} {g g' : Key → Option Ob} {μ μ' ν : Key → Option (Nat × Nat)} {a : Act} {σ σ' : St} {d j : Nat}
def srcK (rs l : List AV) (n : Nat) : Option Key := match atm l (n / 100) (n % 100), atm rs (n / 100) (n % 100) with
  | some (.own _ _ _), some (.asl k _) => some k
  | _, _ => none
theorem exp_own' {o : List (Key × Ob)} {ks : List Key} {c : AV} {sz : Nat} {mu : Bool} {es : List (List AV)} (h : exp1 o ks c = some (.own sz mu es)) : ∃ k mu' shr, c = .asl k es ∧ getO o k = some (.tail es.length sz mu' shr) ∧ ks.count k = 1 ∧ mu = !shr := by
  unfold exp1 at h
  split at h
  · rename_i k es'
    split at h
    · rename_i n sz' mu' shr hk
      simp only [Option.some.injEq] at h
      split at h
      · rename_i hc
        cases h
        exact ⟨k, mu', shr, rfl, by rw [hk, hc.1], hc.2, rfl⟩
      · cases h
    · cases h
  · cases c <;> simp [frz1] at h
theorem out_rep (hI : Inv G w0 S0 σ.t (getO σ.o) μ a w) {rs l : List AV} (hsz : ∀ r ∈ rs, (cellsOf r).length ≤ 100) (he : expT σ.o (allKeys rs) rs = some l) (d j : Nat) :
    ∃ ν : Key → Option (Nat × Nat), (∀ k b base, ν k = some (b, base) → (getO (impT d j l).2 k).isSome ∧ w0.heap.size ≤ b ∧ b < w.heap.size) ∧ (∀ k k' b i i', ν k = some (b, i) → ν k' = some (b, i') → k = k') ∧
      (∀ k x, getO (impT d j l).2 k = some x → ObRep (mkC w0 S0 w (getO (impT d j l).2) ν) k x) ∧
      ∀ (m : Nat) (r : AV) (y : Value), rs[m]? = some r → LRep (mkC w0 S0 w (getO σ.o) μ) r y → ∃ r', l[m]? = some r' ∧ LRepA (mkC w0 S0 w (getO (impT d j l).2) ν) (impA d (j + 100 * m) r').1 y := by
  obtain ⟨hl1, hl2⟩ := expT_get he
  have hlsz : ∀ r ∈ l, (cellsOf r).length ≤ 100 := by
    intro r' hr'
    obtain ⟨m, hm, rfl⟩ := List.mem_iff_getElem.1 hr'
    obtain ⟨r1, h1, h2⟩ := hl2 m _ (List.getElem?_eq_getElem (by omega))
    rw [List.getElem?_eq_getElem hm] at h1
    cases h1
    rw [(expA_get h2).1]
    exact hsz _ (List.getElem_mem _)
  have hgi := fun q => getO_impT d q l j hlsz
  have hsrc : ∀ n k, srcK rs l n = some k → ∃ es sz mu mu' shr, atm l (n / 100) (n % 100) = some (.own sz mu es) ∧ atm rs (n / 100) (n % 100) = some (.asl k es) ∧ getO σ.o k = some (.tail es.length sz mu' shr) ∧ (allKeys rs).count k = 1 ∧ mu = !shr := by
    intro n k h
    unfold srcK at h
    split at h
    · rename_i sz mu es k' es' h1 h2
      cases h
      obtain ⟨c, hc, hx⟩ := atm_exp he h1
      rw [h2] at hc
      cases hc
      obtain ⟨k', mu', shr, h3, h4, h5, h6⟩ := exp_own' hx
      cases h3
      exact ⟨es, sz, mu, mu', shr, h1, h2, h4, h5, h6⟩
    · cases h
  let ν : Key → Option (Nat × Nat) := fun q => if q.1 = d ∧ j ≤ q.2 then (srcK rs l (q.2 - j)).bind μ else none
  have hν : ∀ q p, ν q = some p → q.1 = d ∧ j ≤ q.2 ∧ ∃ k, srcK rs l (q.2 - j) = some k ∧ μ k = some p := by
    intro q p h
    simp only [ν] at h
    split at h
    · rename_i hq
      obtain ⟨k, h1, h2⟩ := Option.bind_eq_some_iff.1 h
      exact ⟨hq.1, hq.2, k, h1, h2⟩
    · cases h
  have hgo : ∀ q : Key, q.1 = d → j ≤ q.2 → getO (impT d j l).2 q = (atm l ((q.2 - j) / 100) ((q.2 - j) % 100)).bind ownOb := fun q h1 h2 => by rw [hgi, if_pos ⟨h1, h2⟩]
  have hinj : ∀ k k' b i i', ν k = some (b, i) → ν k' = some (b, i') → k = k' := by
    intro q q' b i i' h h'
    obtain ⟨h1, h2, k, h3, h4⟩ := hν q _ h
    obtain ⟨h1', h2', k', h3', h4'⟩ := hν q' _ h'
    obtain rfl := hI.inj _ _ _ _ _ h4 h4'
    obtain ⟨es, sz, mu, mu', shr, _, h5, _, h6, _⟩ := hsrc _ _ h3
    obtain ⟨es', _, _, _, _, _, h5', _, _, _⟩ := hsrc _ _ h3'
    obtain ⟨h7, h8⟩ := atm_uniq h5 h5' h6
    have : q.2 - j = q'.2 - j := by
      have e1 := Nat.div_add_mod (q.2 - j) 100
      have e2 := Nat.div_add_mod (q'.2 - j) 100
      omega
    exact Prod.ext (h1.trans h1'.symm) (by omega)
  have hS : ∀ b i, Stab w0 S0 w (getO σ.o) μ b i → Stab w0 S0 w (getO (impT d j l).2) ν b i := by
    intro b i h
    rcases h with h | ⟨h1, h2, h3⟩
    · exact .inl h
    · refine .inr ⟨h1, h2, fun q base hq => ?_⟩
      obtain ⟨e1, e2, k, e3, e4⟩ := hν q _ hq
      obtain ⟨es, sz, mu, mu', shr, e5, e6, e7, e8, e9⟩ := hsrc _ _ e3
      have := h3 k base e4
      rw [e7] at this
      rw [hgo q e1 e2, e5]
      obtain ⟨c1, c2⟩ := this
      subst c1
      subst e9
      exact ⟨rfl, c2⟩
  have F : ∀ {c : AV} {x : Value}, FRep w (Stab w0 S0 w (getO σ.o) μ) c x → FRep w (Stab w0 S0 w (getO (impT d j l).2) ν) c x := fun h => h.mono fun b i hs => ⟨hS b i hs, rfl⟩
  have atomR : ∀ (m i : Nat) (c c' : AV) (x : Value), i < 100 → atm rs m i = some c → atm l m i = some c' → exp1 σ.o (allKeys rs) c = some c' → LRep1 (mkC w0 S0 w (getO σ.o) μ) c x → LRep1 (mkC w0 S0 w (getO (impT d j l).2) ν) (imp1 d (j + (100 * m + i)) c').1 x := by
    intro m i c c' x hi hc hc' hx h
    have hq1 : ((d, j + (100 * m + i)) : Key).2 - j = 100 * m + i := by show j + (100 * m + i) - j = _; omega
    have hdiv : (100 * m + i) / 100 = m := by omega
    have hmod : (100 * m + i) % 100 = i := by omega
    unfold exp1 at hx
    split at hx
    · rename_i k es
      split at hx
      · rename_i n sz mu shr hk
        obtain ⟨len, sz', mu', shr', h1, h2, h3, h4, h5⟩ := h
        have h1 : getO σ.o k = some (.tail len sz' mu' shr') := h1
        rw [hk] at h1
        cases h1
        simp only [Option.some.injEq] at hx
        split at hx
        · rename_i hown
          obtain ⟨rfl, hcnt⟩ := hown
          subst hx
          have hgk : getO (impT d j l).2 (d, j + (100 * m + i)) = some (.tail es.length sz (!shr) (!!shr)) := by
            rw [hgo _ rfl (by show j ≤ j + _; omega), hq1, hdiv, hmod, hc']; rfl
          have hsk : srcK rs l (100 * m + i) = some k := by
            unfold srcK
            rw [hdiv, hmod, hc', hc]
          have hνk : ν (d, j + (100 * m + i)) = μ k := by
            simp only [ν]
            rw [if_pos ⟨trivial, by omega⟩, show j + (100 * m + i) - j = 100 * m + i by omega, hsk]
            rfl
          refine ⟨es.length, sz, !shr, !!shr, hgk, Nat.le_refl _, fun _ => rfl, h4, ?_⟩
          rcases h5 with ⟨h5, h6, h7⟩ | ⟨b, o, cap, X, h5, h6, h7, h8⟩
          · exact .inl ⟨h5, h6, fun h0 => by show ν _ = none; rw [hνk]; exact h7 h0⟩
          · refine .inr ⟨b, o, cap, X, h5, h6, fun h0 => ⟨by show ν _ = _; rw [hνk]; exact (h7 h0).1, (h7 h0).2⟩, fun i' e j' c he hc => ?_⟩
            obtain ⟨a1, a2, a3, a4⟩ := h8 i' e j' c he hc
            refine ⟨a1.imp (hS _ _) fun ho => ?_, a2, a3, F a4⟩
            obtain ⟨base, len', sz'', mu'', shr'', o1, o2, o3⟩ := ho
            have o2 : getO σ.o k = some (.tail len' sz'' mu'' shr'') := o2
            rw [hk] at o2
            cases o2
            exact ⟨base, es.length, sz, !shr, !!shr, by show ν _ = _; rw [hνk]; exact o1, hgk, o3⟩
        · rename_i hown
          subst hx
          show FRep _ _ _ _
          rcases h5 with ⟨rfl, rfl, _⟩ | ⟨b, o, cap, X, rfl, h6, h7, h8⟩
          · exact .nil
          · refine .sl X h6 h4 (fun i' e j' c he hcj => ?_) fun i' e j' c he hcj => F (h8 i' e j' c he hcj).2.2.2
            obtain ⟨a1, a2, a3, a4⟩ := h8 i' e j' c he hcj
            refine ⟨?_, a2, a3⟩
            rcases a1 with a1 | ⟨base, len', sz'', mu'', shr'', o1, o2, o3⟩
            · exact hS _ _ a1
            · have o1 : μ k = some (b, base) := o1
              have hp := hI.pl k b base o1
              refine .inr ⟨hp.2.1, hp.2.2, fun q base' hq => ?_⟩
              exfalso
              obtain ⟨e1, e2, k', e3, e4⟩ := hν q _ hq
              obtain rfl := hI.inj _ _ _ _ _ e4 o1
              obtain ⟨es', sz3, mu3, mu4, shr3, e5, e6, e7, e8, e9⟩ := hsrc _ _ e3
              obtain ⟨u1, u2⟩ := atm_uniq e6 hc e8
              rw [u1, u2] at e6
              rw [hc] at e6
              cases e6
              rw [hk] at e7
              cases e7
              exact hown ⟨rfl, e8⟩
      · cases hx
    · rename_i hne
      cases c <;> simp only [frz1, Option.some.injEq, reduceCtorEq] at hx <;> subst hx
      · exact F h
      · rw [show x = _ from h]; exact .nil
      · exact F h
      · exact absurd rfl (hne _ _)
      · exact F h
      · exact F h
      · exact F h
  refine ⟨ν, fun q b base h => ?_, hinj, fun q x hx => ?_, fun m r y hr hy => ?_⟩
  · obtain ⟨e1, e2, k, e3, e4⟩ := hν q _ h
    obtain ⟨es, sz, mu, mu', shr, e5, _⟩ := hsrc _ _ e3
    exact ⟨by rw [hgo q e1 e2, e5]; rfl, (hI.pl k b base e4).2⟩
  · have hx' := hx
    rw [hgi] at hx'
    split at hx'
    · rename_i hq
      obtain ⟨c', h1, h2⟩ := Option.bind_eq_some_iff.1 hx'
      obtain ⟨c, hc, hex⟩ := atm_exp he h1
      cases c' <;> simp only [ownOb, Option.some.injEq, reduceCtorEq] at h2
      subst h2
      rename_i sz mu es
      obtain ⟨k, mu', shr, rfl, h4, h5, rfl⟩ := exp_own' hex
      have hsk : srcK rs l (q.2 - j) = some k := by
        unfold srcK
        rw [h1, hc]
      have hνk : ν q = μ k := by
        simp only [ν]
        rw [if_pos hq, hsk]
        rfl
      refine ⟨by simp, ?_⟩
      rcases (hI.ob k _ h4).2 with ⟨o1, o2⟩ | ⟨b, base, xs, ty, o1, o2, o3⟩
      · exact .inl ⟨hνk.trans o1, o2⟩
      · exact .inr ⟨b, base, xs, ty, hνk.trans o1, o2, o3⟩
    · cases hx'
  · obtain ⟨r', hr', hex⟩ := hl2 m r hr
    refine ⟨r', hr', ?_⟩
    obtain ⟨h1, h2, h3⟩ := expA_get hex
    have hrl := hsz r (List.mem_of_getElem? hr)
    rcases h3 with ⟨cs, cs', rfl, rfl⟩ | h3
    · obtain ⟨vs, e1, e2, e3⟩ := hy
      have h1 : cs'.length = cs.length := h1
      refine ⟨vs, e1, by rw [(impL_get d cs' (j + 100 * m) 0).1, h1]; exact e2, fun i c x hc hx => ?_⟩
      have hlt : i < cs'.length := by
        have := (List.getElem?_eq_some_iff.1 hc).1
        have hlen : (impA d (j + 100 * m) (.agg cs')).1 = .agg (impL d (j + 100 * m) cs').1 := rfl
        rw [(impL_get d cs' (j + 100 * m) 0).1] at this
        exact this
      have hcs' : cs'[i]? = some cs'[i] := List.getElem?_eq_getElem hlt
      have hci := (impL_get d cs' (j + 100 * m) i).2 _ hcs'
      have hc : (impL d (j + 100 * m) cs').1[i]? = some c := hc
      rw [hci] at hc
      cases hc
      have hcs : cs[i]? = some (cs[i]'(by omega)) := List.getElem?_eq_getElem (by omega)
      obtain ⟨c2, hc2, hx2⟩ := h2 i _ hcs
      have hc2 : cs'[i]? = some c2 := hc2
      rw [hcs'] at hc2
      cases hc2
      obtain ⟨a1, a2⟩ := e3 i _ x hcs hx
      have hrl : cs.length ≤ 100 := hrl
      refine ⟨?_, a2⟩
      rw [Nat.add_assoc]
      exact atomR m i _ _ x (by omega) (by unfold atm; rw [hr]; exact hcs) (by unfold atm; rw [hr']; exact hcs') hx2 a1
    · obtain ⟨s1, s2⟩ := exp1_shape h3
      have ha : atm rs m 0 = some r := by unfold atm; rw [hr]; simp [s2]
      have ha' : atm l m 0 = some r' := by unfold atm; rw [hr']; simp [s1]
      have hy1 : LRep1 (mkC w0 S0 w (getO σ.o) μ) r y := by
        cases r with
        | agg cs => unfold exp1 frz1 at h3; cases h3
        | tup cs => unfold exp1 frz1 at h3; cases h3
        | _ => exact hy
      have hres := atomR m 0 r r' y (by omega) ha ha' h3 hy1
      have e : (impA d (j + 100 * m) r').1 = (imp1 d (j + 100 * m) r').1 := by
        cases r' with
        | agg cs => exfalso; unfold exp1 at h3; split at h3 <;> (try split at h3) <;> (try split at h3) <;> (try cases h3) <;> (cases r <;> simp [frz1] at h3)
        | _ => rfl
      rw [e]
      exact LRepA.of1 hres.atom hres
end
end Go.Proofs.Yticmmpiffekbiaa.Eng
namespace Go.Proofs.Yticmmpiffekbiaa.Eng
open Go Go.RowKit
section
variable {P : Program} {G : Nat → AV} {w0 w w' : World} {S0 : Nat → Nat → Prop} {T : List AV} {g g' : Key → Option Ob} {μ μ' ν : Key → Option (Nat × Nat)} {a : Act} {σ σ' : St} {d j : Nat} {call : Call} {ow : Nat → Bool}
def resV (tmps : Array Value) : ResultVar → Sem Value
  | .tmp t => pure (tmps.getD t undef)
  | .cell a t => do loadVar t (← asAddr (tmps.getD a undef))
theorem getRs_run (hI : Inv G w0 S0 σ.t (getO σ.o) μ a w) : ∀ (rv : List ResultVar) (cr : List CR) (rs : List AV), cR P rv = some cr → getRs σ cr = some rs →
    ∃ ys : List Value, (rv.mapM (resV a.tmps)).run P w = .ok ys w ∧ ys.length = rs.length ∧ ∀ (m : Nat) (r : AV) (y : Value), rs[m]? = some r → ys[m]? = some y → LRep (mkC w0 S0 w (getO σ.o) μ) r y
  | [], cr, rs, hc, hr => by
    simp [cR] at hc
    subst hc
    simp [getRs] at hr
    subst hr
    exact ⟨[], rfl, rfl, fun m r y h => by simp at h⟩
  | .tmp t :: rv, cr, rs, hc, hr => by
    simp only [cR, Option.map_eq_some_iff] at hc
    obtain ⟨m, hm, rfl⟩ := hc
    simp only [getRs, Option.bind_eq_some_iff, Option.some.injEq] at hr
    obtain ⟨x, hx, l, hl, rfl⟩ := hr
    obtain ⟨ys, h1, h2, h3⟩ := getRs_run hI rv m l hm hl
    refine ⟨a.tmps.getD t undef :: ys, ?_, by simp [h2], fun m r y hr hy => ?_⟩
    · simp [List.mapM_cons, resV, h1]
    · cases m with
      | zero =>
        simp only [getR, Option.some.injEq] at hx
        simp at hr hy
        subst hr hx hy
        have := hI.ev (.tmp t)
        simpa [cX, ev, Act.eval] using this
      | succ m => exact h3 m r y (by simpa using hr) (by simpa using hy)
  | .cell q t :: rv, cr, rs, hc, hr => by
    simp only [cR, Option.bind_eq_some_iff] at hc
    obtain ⟨ag, hag, n, hn, hc⟩ := hc
    split at hc
    · simp only [Option.map_eq_some_iff] at hc
      obtain ⟨m, hm, rfl⟩ := hc
      simp only [getRs, Option.bind_eq_some_iff, Option.some.injEq] at hr
      obtain ⟨x, hx, l, hl, rfl⟩ := hr
      obtain ⟨ys, h1, h2, h3⟩ := getRs_run hI rv m l hm hl
      have hq := hI.ev (.tmp q)
      have key : ∃ y, (resV a.tmps (.cell q t)).run P w = .ok y w ∧ LRep (mkC w0 S0 w (getO σ.o) μ) x y := by
        simp only [getR] at hx
        split at hx
        · rename_i k off hk
          split at hx
          · rename_i cs s hg
            have hq' : LRep (mkC w0 S0 w (getO σ.o) μ) (.ptr k off) (a.eval (.tmp q)) := by
              rw [← hk]
              exact hq
            obtain ⟨b, cs', s1, e1, e2, e3⟩ := hq'
            obtain ⟨b', xs, ty, h4, h5, h6, h7⟩ := hI.ob k _ hg
            have e2 : μ k = some (b, 0) := e2
            have h4 : μ k = some (b', 0) := h4
            rw [e2] at h4
            cases h4
            obtain ⟨y, hy1, hy2⟩ := pack_load (C := mkC w0 S0 w (getO σ.o) μ) (P := P) (b := b) (q := off) (X := fun j => xs.getD (off + j) default) hag hn (fun j c hj => by
              have hj' := drop_get hj
              have hlt : off + j < xs.size := by rw [h6]; exact (List.getElem?_eq_some_iff.1 hj').1
              have hxs : xs[off + j]? = some (xs.getD (off + j) default) := by simp [Array.getD, hlt]
              exact ⟨cell_of_heap h5 hxs, h7 _ _ _ hj' hxs⟩) hx
            have hy1 : (loadVar t ⟨b, off, none⟩).run P w = .ok y w := hy1
            refine ⟨y, ?_, hy2⟩
            have e3 : a.tmps.getD q undef = .pointer (some ⟨b, off, none⟩) := e3
            simp [resV, e3, asAddr, hy1]
          · cases hx
        · cases hx
      obtain ⟨y, hy1, hy2⟩ := key
      refine ⟨y :: ys, ?_, by simp [h2], fun m r y' hr hy => ?_⟩
      · simp [List.mapM_cons, hy1, h1]
      · cases m with
        | zero => simp at hr hy; subst hr hy; exact hy2
        | succ m => exact h3 m r y' (by simpa using hr) (by simpa using hy)
    · cases hc
def packV : List Value → Value
  | [y] => y
  | ys => .tuple ys.toArray
theorem results_run {fn : Func} {tmps : Array Value} {ys : List Value} (h : (fn.results.toList.mapM (resV tmps)).run P w = .ok ys w) : (results fn tmps).run P w = .ok (packV ys) w := by
  unfold results
  refine Eq.trans (congrArg (fun m : Sem (Array Value) => (m >>= fun vs => pure (if h : vs.size = 1 then vs[0] else Value.tuple vs)).run P w) (?_ : _ = List.toArray <$> fn.results.toList.mapM (resV tmps))) ?_
  · rw [← List.mapM_toArray]
    simp only [Array.toArray_toList]
    first | rfl | (congr 1; funext x; cases x <;> rfl)
  · have hm : (List.toArray <$> fn.results.toList.mapM (resV tmps)).run P w = .ok ys.toArray w := by
      rw [← bind_pure_comp]
      simp only [Sem.run_bind, h, Result.andThen_ok]
      rfl
    simp only [Sem.run_bind, hm, Result.andThen_ok]
    match ys with
    | [] => simp [packV]
    | [y] => simp [packV]
    | y :: y' :: ys => simp [packV]
theorem Inv.start {S : Nat → Nat → Prop} {args : List AV} {vargs : Array Value} {n : Nat} (hS : ∀ b i, S b i → b < w.heap.size) (hG : GlobOk G w S) (hl : vargs.size = args.length)
    (ha : ∀ (i : Nat) (c : AV) (x : Value), args[i]? = some c → vargs[i]? = some x → FRep w S c x) :
    Inv G w S (args ++ List.replicate (n - args.length) .undef) (getO []) (fun _ => none) { tmps := vargs ++ Array.replicate (n - vargs.size) undef, defers := [] } w := by
  have hst : ∀ b i, S b i → Stab w S w (getO []) (fun _ => none) b i := fun b i h => .inl ⟨hS b i h, h⟩
  refine ⟨.refl _ _, by simp [hl], fun i c hc => ?_, fun k x h => (by cases h), fun k b base h => (by cases h), fun k k' b i i' h => (by cases h), rfl, hG.2, fun n => (hG.1 n).imp id fun h => h.mono fun b i hs => ⟨hst b i hs, rfl⟩⟩
  by_cases hlt : i < args.length
  · rw [List.getElem?_append_left hlt] at hc
    have hv : i < vargs.size := by omega
    refine ⟨vargs[i], by show (vargs ++ _)[i]? = _; rw [Array.getElem?_append_left hv, Array.getElem?_eq_getElem hv], ?_⟩
    have := ha i c vargs[i] hc (Array.getElem?_eq_getElem hv)
    exact LRepA.lr (FRep.la (C := mkC w S w (getO []) fun _ => none) (this.mono fun b i hs => ⟨hst b i hs, rfl⟩))
  · rw [List.getElem?_append_right (by omega)] at hc
    have hc' := List.getElem?_eq_some_iff.1 hc
    obtain ⟨h1, h2⟩ := hc'
    simp at h1 h2
    subst h2
    refine ⟨undef, ?_, trivial⟩
    show (vargs ++ _)[i]? = _
    rw [Array.getElem?_append_right (by omega), Array.getElem?_replicate, if_pos (by omega)]
theorem F_sound (hm : P.follows .mixedOrders = true) (hcall : CallOk P G call) {n : Nat} {f : FuncId} {fn : Func} {cf : CF} {args : List AV} {r : AV} (hf : P.funcs[f]? = some fn) (hcf : cF P ow fn = some { cf with code := eraseK cf.code }) (hd : denF call G n cf args = some r)
    {S : Nat → Nat → Prop} {vargs : Array Value} (hS : ∀ b i, S b i → b < w.heap.size) (hG : GlobOk G w S) (hl : vargs.size = args.length)
    (ha : ∀ (i : Nat) (c : AV) (x : Value), args[i]? = some c → vargs[i]? = some x → FRep w S c x) :
    Calls P f vargs w fun e w' => ∃ y, e = .returned y ∧ Below w.heap.size w w' ∧ RRep w S r y w' := by
  unfold cF at hcf
  simp only [Option.bind_eq_some_iff] at hcf
  obtain ⟨b, hb, res, hres, hcf⟩ := hcf
  split at hcf
  · rename_i hle
    simp only [Option.some.injEq, CF.mk.injEq] at hcf
    obtain ⟨h1, h2, h3, h4⟩ := hcf
    unfold denF at hd
    split at hd
    · rename_i hargs
      simp only [Option.bind_eq_some_iff] at hd
      obtain ⟨⟨e, σ'⟩, hd1, hd2⟩ := hd
      refine calls_of_wp hf hb ?_
      refine C_sound (G := G) (w0 := w) (S0 := S) hm hcall b cf.code _ e σ' _ (fun _ => none) _ w h3 hd1 ?_ fun a' w' μ' hI => ?_
      · show Inv G w S (args ++ List.replicate (cf.ntmps - args.length) .undef) _ _ _ _
        rw [← h2]
        exact Inv.start hS hG hl ha
      · have fin : ((getRs σ' cf.res).bind fun rs => outF σ' rs) = some r → a'.defers = [] ∧ ∃ v, (results fn a'.tmps).run P w' = .ok v w' ∧ ∃ y, Ending.returned v = .returned y ∧ Below w.heap.size w w' ∧ RRep w S r y w' := by
          intro hd2
          refine ⟨hI.df, ?_⟩
          simp only [Option.bind_eq_some_iff] at hd2
          obtain ⟨rs, hrs, ho⟩ := hd2
          obtain ⟨ys, hy1, hy2, hy3⟩ := getRs_run hI fn.results.toList cf.res rs (by rw [hres, h4]) hrs
          refine ⟨_, results_run hy1, _, rfl, hI.below, ?_⟩
          unfold outF at ho
          split at ho
          · rename_i hsz
            simp only [Option.bind_eq_some_iff] at ho
            obtain ⟨l, hl, ho⟩ := ho
            have hsz' : ∀ r ∈ rs, (cellsOf r).length ≤ 100 := fun r hr => by simpa using List.all_eq_true.1 hsz r hr
            have hll := (expT_get hl).1
            intro d j
            obtain ⟨ν, n1, n2, n3, n4⟩ := out_rep hI hsz' hl d j
            split at ho
            · rename_i x
              have hr : x = r := by simpa using ho
              subst hr
              have hx : impU d j x = impA d j x := by
                obtain ⟨r0, hr0⟩ : ∃ r0, rs = [r0] := by
                  match rs, hll with
                  | [r0], _ => exact ⟨r0, rfl⟩
                obtain ⟨r', hr', he⟩ := (expT_get hl).2 0 r0 (by rw [hr0]; rfl)
                simp at hr'
                subst hr'
                rcases (expA_get he).2.2 with ⟨cs, cs', _, rfl⟩ | h
                · rfl
                · cases x with
                  | tup vs => exact absurd rfl ((exp1_nt h).1 vs)
                  | _ => rfl
              have hT : (impT d j [x]).2 = (impU d j x).2 := by rw [hx]; simp [impT]
              rw [hT] at n1 n3 n4
              refine ⟨ν, n1, n2, n3, ?_⟩
              obtain ⟨r0, hr0⟩ : ∃ r0, rs = [r0] := by
                match rs, hll with
                | [r0], _ => exact ⟨r0, rfl⟩
              subst hr0
              obtain ⟨y, hy0⟩ : ∃ y, ys = [y] := by
                match ys, hy2 with
                | [y], _ => exact ⟨y, rfl⟩
              subst hy0
              obtain ⟨r', hr', h5⟩ := n4 0 r0 y rfl (hy3 0 r0 y rfl rfl)
              simp at hr'
              subst hr'
              rw [hx]
              rw [hx] at h5
              exact LRepA.lr h5
            · rename_i hne
              have hr : AV.tup l = r := by simpa using ho
              subst hr
              have hU : impU d j (.tup l) = (.tup (impT d j l).1, (impT d j l).2) := rfl
              rw [hU]
              refine ⟨ν, n1, n2, n3, ?_⟩
              have hys : packV ys = .tuple ys.toArray := by
                match ys, hy2 with
                | [], _ => rfl
                | [y], hy2 =>
                  exfalso
                  match l, hll, hne with
                  | [x], _, hne => exact hne x rfl
                  | [], hll, _ => simp at hll; simp at hy2; omega
                  | _ :: _ :: _, hll, _ => simp at hll; simp at hy2; omega
                | _ :: _ :: _, _ => rfl
              rw [hys]
              refine ⟨ys.toArray, rfl, by rw [(impT_get d l j 0).1]; simp [hy2, hll], fun m c x hc hx => ?_⟩
              have hm : m < l.length := by rw [← (impT_get d l j 0).1]; exact (List.getElem?_eq_some_iff.1 hc).1
              have hmr : m < rs.length := by omega
              rw [(impT_get d l j m).2 _ (List.getElem?_eq_getElem hm)] at hc
              cases hc
              obtain ⟨r', hr', h5⟩ := n4 m _ x (List.getElem?_eq_getElem hmr) (hy3 m _ x (List.getElem?_eq_getElem hmr) (by simpa using hx))
              rw [List.getElem?_eq_getElem hm] at hr'
              cases hr'
              exact h5
          · cases ho
        cases e with
        | normal => exact fin hd2
        | ret => exact fin hd2
        | exit i => cases hd2
    · cases hd
  · cases hcf
end
end Go.Proofs.Yticmmpiffekbiaa.Eng
namespace Go.Proofs.Yticmmpiffekbiaa.Eng
open Go Go.RowKit
def LeC (call call' : Call) : Prop := ∀ f a r, call f a = some r → call' f a = some r
section
variable {call call' : Call} {G : Nat → AV} {t : List AV} {g : Key → Option Ob} {d j : Nat} {op : COp}
theorem bind_mono {α β : Type} {m m' : Option α} {f f' : α → Option β} {y : β} (h : m.bind f = some y) (hm : ∀ x, m = some x → m' = some x) (hf : ∀ x, f x = some y → f' x = some y) : m'.bind f' = some y := by
  obtain ⟨x, hx, hy⟩ := Option.bind_eq_some_iff.1 h
  rw [hm x hx]
  exact hf x hy
theorem denX_mono (hle : LeC call call') {r : R} (h : denX call G t g d j op = some r) : denX call' G t g d j op = some r := by
  cases op
  case call o f l =>
    simp only [denX] at h ⊢
    exact bind_mono h (fun _ h => h) fun q h => bind_mono h (fun r => hle f q.1 r) fun _ h => h
  case cal o f l =>
    simp only [denX] at h ⊢
    split at h
    · exact bind_mono h (fun _ h => h) fun q h => bind_mono h (fun r => hle _ _ r) fun _ h => h
    · cases h
  case len s x => cases s <;> exact h
  all_goals exact h
theorem denO_mono (hle : LeC call call') {σ σ' : St} {d : Option Nat} (h : denO call G σ op d = some σ') : denO call' G σ op d = some σ' := by
  unfold denO at h ⊢
  split at h
  · rename_i hx
    rw [if_pos hx]
    exact bind_mono h (fun r => denX_mono hle) fun _ h => h
  · rename_i hx
    rw [if_neg hx]
    exact h
theorem den1_mono (hle : LeC call call') {σ σ' : St} {c : CO} (h : den1 call G σ c = some σ') : den1 call' G σ c = some σ' := by
  unfold den1 at h ⊢
  refine bind_mono h (fun _ h => h) fun b h => ?_
  cases b with
  | true => exact denO_mono hle h
  | false => exact h
theorem denOs_mono (hle : LeC call call') : ∀ {l : List CO} {σ σ' : St}, denOs call G l σ = some σ' → denOs call' G l σ = some σ'
  | [], _, _, h => h
  | c :: l, σ, σ', h => by
    simp only [denOs] at h ⊢
    exact bind_mono h (fun _ => den1_mono hle) fun _ => denOs_mono hle
theorem denP1_mono (hle : LeC call call') {o : List (Key × Ob)} {t : List AV} {c : CO} {p : PD} (h : denP1 call G o t c = some p) : denP1 call' G o t c = some p := by
  unfold denP1 at h ⊢
  split at h
  · cases h
  · refine bind_mono h (fun _ h => h) fun b h => ?_
    cases b with
    | false => exact h
    | true =>
      simp only [cond_true] at h ⊢
      split at h
      · rename_i hx
        rw [if_pos hx]
        exact bind_mono h (fun r => denX_mono hle) fun _ h => h
      · cases h
theorem denPs_mono (hle : LeC call call') {o : List (Key × Ob)} : ∀ {l : List CO} {t : List AV} {D : List PD}, denPs call G o l t = some D → denPs call' G o l t = some D
  | [], _, _, h => h
  | c :: l, t, D, h => by
    simp only [denPs] at h ⊢
    exact bind_mono h (fun _ => denP1_mono hle) fun _ h => bind_mono h (fun _ => denPs_mono hle) fun _ h => h
theorem denC_mono (hle : LeC call call') {n n' : Nat} (hn : n ≤ n') : ∀ {c : CC} {σ : St} {p : XE × St}, denC call G n c σ = some p → denC call' G n' c σ = some p
  | .skip, σ, p, h => by simpa only [denC] using h
  | .exit i, σ, p, h => by simpa only [denC] using h
  | .ret, σ, p, h => by simpa only [denC] using h
  | .bad, σ, p, h => by simp [denC] at h
  | .reg pre suf, σ, p, h => by
    simp only [denC] at h ⊢
    exact bind_mono h (fun _ => denPs_mono hle) fun _ h => bind_mono h (fun _ => denOs_mono hle) fun _ h => h
  | .seq a b, σ, p, h => by
    simp only [denC] at h ⊢
    refine bind_mono h (fun _ => denC_mono hle hn) fun q h => ?_
    obtain ⟨e, σ1⟩ := q
    cases e with
    | normal => exact denC_mono hle hn h
    | exit i => exact h
    | ret => exact h
  | .cond c a b, σ, p, h => by
    simp only [denC] at h ⊢
    split at h
    · rename_i v hv
      cases v with
      | true => exact denC_mono hle hn (c := a) h
      | false => exact denC_mono hle hn (c := b) h
    · cases h
  | .block id a, σ, p, h => by
    simp only [denC] at h ⊢
    exact bind_mono h (fun _ => denC_mono hle hn) fun _ h => h
  | .loop keep a, σ, p, h => by
    simp only [denC] at h ⊢
    have key : ∀ (m m' : Nat) (σ : St), m ≤ m' → denC.rounds keep (denC call G n a) m σ = some p → denC.rounds keep (denC call' G n' a) m' σ = some p := by
      intro m
      induction m with
      | zero => intro m' σ _ h; simp [denC.rounds] at h
      | succ m ih =>
        intro m' σ hm h
        obtain ⟨m', rfl⟩ : ∃ k, m' = k + 1 := ⟨m' - 1, by omega⟩
        simp only [denC.rounds] at h ⊢
        refine bind_mono h (fun _ => denC_mono hle hn) fun q h => ?_
        obtain ⟨e, σ1⟩ := q
        cases e with
        | normal => exact ih m' σ1 (by omega) h
        | exit i => exact h
        | ret => exact h
    exact key n n' σ hn h
theorem denF_mono (hle : LeC call call') {n n' : Nat} (hn : n ≤ n') {cf : CF} {args : List AV} {r : AV} (h : denF call G n cf args = some r) : denF call' G n' cf args = some r := by
  unfold denF at h ⊢
  split at h
  · rename_i hl
    rw [if_pos hl]
    exact bind_mono h (fun _ => denC_mono hle hn) fun _ h => h
  · cases h
end
inductive Den (defs : FuncId → Option CF) (prims : Call) (G : Nat → AV) : FuncId → List AV → AV → Prop
  | prim {f : FuncId} {args : List AV} {r : AV} (h : prims f args = some r) : Den defs prims G f args r
  | run {f : FuncId} {args : List AV} {r : AV} {cf : CF} (call : Call) (n : Nat) (hp : prims f args = none) (hd : defs f = some cf) (hc : ∀ f a r, call f a = some r → Den defs prims G f a r) (h : denF call G n cf args = some r) : Den defs prims G f args r
section
variable {defs : FuncId → Option CF} {prims : Call} {G : Nat → AV}
theorem Den.unique {f : FuncId} {args : List AV} {r : AV} (h : Den defs prims G f args r) : ∀ r', Den defs prims G f args r' → r = r' := by
  induction h with
  | prim h =>
    intro r' h'
    cases h' with
    | prim h' => rw [h] at h'; exact Option.some.inj h'
    | run call n hp => rw [h] at hp; cases hp
  | run call n hp hd hc h ih =>
    intro r' h'
    cases h' with
    | prim h' => rw [hp] at h'; cases h'
    | run call' n' hp' hd' hc' h' =>
      rw [hd] at hd'
      cases hd'
      let both : Call := fun f a => (call f a).or (call' f a)
      have l1 : LeC call both := fun f a r h => by simp [both, h]
      have l2 : LeC call' both := fun f a r h => by
        simp only [both]
        cases hc1 : call f a with
        | none => simpa using h
        | some q => have := ih f a q hc1 r (hc' f a r h); simp [this]
      have e1 := denF_mono l1 (Nat.le_max_left n n') h
      have e2 := denF_mono l2 (Nat.le_max_right n n') h'
      rw [e1] at e2
      exact Option.some.inj e2
open Classical in
noncomputable def D (defs : FuncId → Option CF) (prims : Call) (G : Nat → AV) : Call := fun f args => if h : ∃ r, Den defs prims G f args r then some (Classical.choose h) else none
theorem D_iff {f : FuncId} {args : List AV} {r : AV} : D defs prims G f args = some r ↔ Den defs prims G f args r := by
  unfold D
  constructor
  · intro h
    split at h
    · rename_i he
      rw [← Option.some.inj h]
      exact Classical.choose_spec he
    · cases h
  · intro h
    rw [dif_pos ⟨r, h⟩]
    exact congrArg some ((Classical.choose_spec (⟨r, h⟩ : ∃ r, Den defs prims G f args r)) |>.unique r h)
theorem D_run {f : FuncId} {args : List AV} {r : AV} {cf : CF} {n : Nat} (hp : prims f args = none) (hd : defs f = some cf) (h : denF (D defs prims G) G n cf args = some r) : D defs prims G f args = some r :=
  D_iff.2 (.run (D defs prims G) n hp hd (fun _ _ _ h => D_iff.1 h) h)
theorem D_prim {f : FuncId} {args : List AV} {r : AV} (h : prims f args = some r) : D defs prims G f args = some r := D_iff.2 (.prim h)
def DefsOk (P : Program) (defs : FuncId → Option CF) : Prop := ∀ f cf, defs f = some cf → ∃ fn ow, P.funcs[f]? = some fn ∧ (fn.name == "runtime.NumGoroutine") = false ∧ cF P ow fn = some { cf with code := eraseK cf.code }
theorem D_sound {P : Program} (hm : P.follows .mixedOrders = true) (hd : DefsOk P defs) (hp : CallOk P G prims) : CallOk P G (D defs prims G) := by
  intro f args r h0
  have h := D_iff.1 h0
  clear h0
  induction h with
  | prim h => exact hp _ _ _ h
  | run call n hpn hdf hc h ih =>
    obtain ⟨fn, ow, h1, h2, h3⟩ := hd _ _ hdf
    have hcall : CallOk P G call := fun f a r h => ih f a r h
    refine ⟨⟨fn, h1, h2, ?_⟩, fun w S vargs hS hG hl ha => F_sound hm hcall h1 h3 h hS hG hl ha⟩
    unfold cF at h3
    cases hb : fn.body with
    | none => rw [hb] at h3; cases h3
    | some b => rfl
end
end Go.Proofs.Yticmmpiffekbiaa.Eng
