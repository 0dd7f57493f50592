/- The engine: small code, what it comes to, and that a program's calls come to it; part 4. No condition. -/
import Derived.Test.YtmhdapjmndfkgaaGreatDoorEng3
set_option linter.unusedVariables false
set_option linter.unusedSimpArgs false
namespace Go.Proofs.YtmhdapjmndfkgaaGreatDoor.Eng
open Go Go.RowKit
def live2 : AV → Bool
  | .ptr _ _ | .bnil _ => true
  | _ => false
def blank1 : AV → AV
  | .ptr _ _ => .v (.bool false)
  | .bnil _ => .v (.bool false)
  | x => x
def blankA : AV → AV
  | .agg cs => .agg (cs.map blank1)
  | x => blank1 x
theorem keys1_blank (c : AV) : keys1 (blank1 c) = keys1 c := by cases c <;> rfl
theorem cells_blank (r : AV) : cellsOf (blankA r) = (cellsOf r).map blank1 := by cases r <;> rfl
theorem keys_blank (r : AV) : keys (blankA r) = keys r := by
  rw [keys_cells, keys_cells, cells_blank]
  generalize cellsOf r = l
  induction l with
  | nil => rfl
  | cons x l ih => simp only [List.map_cons, List.flatMap_cons, keys1_blank, ih]
theorem allKeys_blank (rs : List AV) : allKeys (rs.map blankA) = allKeys rs := by
  unfold allKeys
  induction rs with
  | nil => rfl
  | cons x l ih => simp only [List.map_cons, List.flatMap_cons, keys_blank, ih]
theorem blank1_dead {c : AV} (h : live2 c = false) : blank1 c = c := by cases c <;> first | rfl | cases h
theorem exp1_dead {o : List (Key × Ob)} {ks : List Key} {c c' : AV} (h : exp1 o ks c = some c') : live2 c' = false := by
  unfold exp1 at h
  split at h
  · split at h
    · simp only [Option.some.injEq] at h
      subst h
      split <;> rfl
    · cases h
  · cases c <;> simp only [frz1, Option.some.injEq, reduceCtorEq] at h <;> subst h <;> rfl
theorem exp1R_blank {ρ : Key → Option Key} {o : List (Key × Ob)} {ks : List Key} {c c' : AV} (h : exp1R ρ o ks c = some c') : exp1 o ks (blank1 c) = some (blank1 c') ∧ live2 c' = live2 c ∧ (∀ cs, c' ≠ .agg cs) := by
  cases c with
  | ptr k off =>
    simp only [exp1R, Option.map_eq_some_iff] at h
    obtain ⟨k', _, rfl⟩ := h
    exact ⟨rfl, rfl, fun cs h => by cases h⟩
  | bnil T =>
    simp only [exp1R, Option.some.injEq] at h
    subst h
    exact ⟨rfl, rfl, fun cs h => by cases h⟩
  | _ =>
    simp only [exp1R] at h
    have hd := exp1_dead h
    exact ⟨by rw [blank1_dead hd]; exact h, hd, (exp1_nt h).2⟩
theorem expLR_blank {ρ : Key → Option Key} {o : List (Key × Ob)} {ks : List Key} : ∀ {cs cs' : List AV}, expLR ρ o ks cs = some cs' → expL o ks (cs.map blank1) = some (cs'.map blank1)
  | [], cs', h => by simp only [expLR, Option.some.injEq] at h; subst h; rfl
  | x :: cs, cs', h => by
    simp only [expLR, Option.bind_eq_some_iff, Option.some.injEq] at h
    obtain ⟨y, hy, m, hm, rfl⟩ := h
    simp only [List.map_cons, expL, (exp1R_blank hy).1, expLR_blank hm, Option.bind_some]
theorem blankA_atom {c : AV} (h : ∀ cs, c ≠ .agg cs) : blankA c = blank1 c := by
  cases c <;> first | rfl | exact absurd rfl (h _)
theorem blank1_atom {c : AV} (h : ∀ cs, c ≠ .agg cs) (cs : List AV) : blank1 c ≠ .agg cs := by
  cases c <;> first | (intro e; cases e; done) | exact absurd rfl (h _)
theorem expA_atom {o : List (Key × Ob)} {ks : List Key} {c : AV} (h : ∀ cs, c ≠ .agg cs) : expA o ks c = exp1 o ks c := by
  cases c <;> first | rfl | exact absurd rfl (h _)
theorem expAR_blank {ρ : Key → Option Key} {o : List (Key × Ob)} {ks : List Key} {r r' : AV} (h : expAR ρ o ks r = some r') : expA o ks (blankA r) = some (blankA r') := by
  cases r with
  | agg cs =>
    simp only [expAR, Option.map_eq_some_iff] at h
    obtain ⟨cs', hc, rfl⟩ := h
    simp only [blankA, expA, expLR_blank hc, Option.map_some]
  | _ =>
    simp only [expAR] at h
    obtain ⟨h1, _, h3⟩ := exp1R_blank h
    rw [blankA_atom h3]
    exact h1
theorem expTR_blank {ρ : Key → Option Key} {o : List (Key × Ob)} {ks : List Key} : ∀ {rs l : List AV}, expTR ρ o ks rs = some l → expT o ks (rs.map blankA) = some (l.map blankA)
  | [], l, h => by simp only [expTR, Option.some.injEq] at h; subst h; rfl
  | x :: rs, l, h => by
    simp only [expTR, Option.bind_eq_some_iff, Option.some.injEq] at h
    obtain ⟨y, hy, m, hm, rfl⟩ := h
    simp only [List.map_cons, expT, expAR_blank hy, expTR_blank hm, Option.bind_some]
theorem expLR_get {ρ : Key → Option Key} {o : List (Key × Ob)} {ks : List Key} : ∀ {cs cs' : List AV}, expLR ρ o ks cs = some cs' → cs'.length = cs.length ∧ ∀ (i : Nat) (c : AV), cs[i]? = some c → ∃ c', cs'[i]? = some c' ∧ exp1R ρ o ks c = some c'
  | [], cs', h => by simp [expLR] at h; subst h; exact ⟨rfl, fun i c h => by simp at h⟩
  | x :: cs, cs', h => by
    simp only [expLR, Option.bind_eq_some_iff, Option.some.injEq] at h
    obtain ⟨y, hy, m, hm, rfl⟩ := h
    obtain ⟨h1, h2⟩ := expLR_get hm
    refine ⟨by simp [h1], fun i c hc => ?_⟩
    cases i with
    | zero => simp at hc; subst hc; exact ⟨y, rfl, hy⟩
    | succ i => exact h2 i c (by simpa using hc)
theorem exp1R_cells {ρ : Key → Option Key} {o : List (Key × Ob)} {ks : List Key} {c c' : AV} (h : exp1R ρ o ks c = some c') : cellsOf c' = [c'] ∧ cellsOf c = [c] := by
  cases c with
  | ptr k off =>
    simp only [exp1R, Option.map_eq_some_iff] at h
    obtain ⟨k', _, rfl⟩ := h
    exact ⟨rfl, rfl⟩
  | bnil T =>
    simp only [exp1R, Option.some.injEq] at h
    subst h
    exact ⟨rfl, rfl⟩
  | _ => exact exp1_shape (o := o) (ks := ks) h
theorem expAR_get {ρ : Key → Option Key} {o : List (Key × Ob)} {ks : List Key} {r r' : AV} (h : expAR ρ o ks r = some r') : (cellsOf r').length = (cellsOf r).length ∧ (∀ (i : Nat) (c : AV), (cellsOf r)[i]? = some c → ∃ c', (cellsOf r')[i]? = some c' ∧ exp1R ρ o ks c = some c') ∧
    ((∃ cs cs', r = .agg cs ∧ r' = .agg cs') ∨ exp1R ρ o ks r = some r') := by
  cases r with
  | agg cs =>
    simp only [expAR, Option.map_eq_some_iff] at h
    obtain ⟨cs', hc, rfl⟩ := h
    obtain ⟨h1, h2⟩ := expLR_get hc
    exact ⟨h1, h2, .inl ⟨cs, cs', rfl, rfl⟩⟩
  | _ =>
    simp only [expAR] at h
    obtain ⟨h1, h2⟩ := exp1R_cells h
    rw [h1, h2]
    refine ⟨rfl, fun i c hc => ?_, .inr h⟩
    match i with
    | 0 => simp at hc; subst hc; exact ⟨r', rfl, h⟩
    | i + 1 => simp at hc
theorem expTR_get {ρ : Key → Option Key} {o : List (Key × Ob)} {ks : List Key} : ∀ {rs l : List AV}, expTR ρ o ks rs = some l → l.length = rs.length ∧ ∀ (m : Nat) (r : AV), rs[m]? = some r → ∃ r', l[m]? = some r' ∧ expAR ρ o ks r = some r'
  | [], l, h => by simp [expTR] at h; subst h; exact ⟨rfl, fun i c h => by simp at h⟩
  | x :: rs, l, h => by
    simp only [expTR, Option.bind_eq_some_iff, Option.some.injEq] at h
    obtain ⟨y, hy, m, hm, rfl⟩ := h
    obtain ⟨h1, h2⟩ := expTR_get hm
    refine ⟨by simp [h1], fun i c hc => ?_⟩
    cases i with
    | zero => simp at hc; subst hc; exact ⟨y, rfl, hy⟩
    | succ i => exact h2 i c (by simpa using hc)
theorem atm_blank (rs : List AV) (m i : Nat) : atm (rs.map blankA) m i = (atm rs m i).map blank1 := by
  unfold atm
  rw [List.getElem?_map]
  cases rs[m]? with
  | none => rfl
  | some r => simp only [Option.map_some, Option.bind_some, cells_blank, List.getElem?_map]
theorem imp1_blank (d j : Nat) (c : AV) : (imp1 d j (blank1 c)).2 = (imp1 d j c).2 := by cases c <;> rfl
theorem impL_blank (d : Nat) : ∀ (cs : List AV) (j : Nat), (impL d j (cs.map blank1)).2 = (impL d j cs).2
  | [], _ => rfl
  | x :: cs, j => by simp only [List.map_cons, impL, imp1_blank, impL_blank d cs (j + 1)]
theorem impA_blank (d j : Nat) (c : AV) : (impA d j (blankA c)).2 = (impA d j c).2 := by
  cases c with
  | agg cs => exact impL_blank d cs j
  | _ => first | rfl | exact imp1_blank d j _
theorem impT_blank (d : Nat) : ∀ (l : List AV) (j : Nat), (impT d j (l.map blankA)).2 = (impT d j l).2
  | [], _ => rfl
  | x :: l, j => by simp only [List.map_cons, impT, impA_blank, impT_blank d l (j + 100)]
theorem getO_lendV : ∀ (L : List AV) (i : Nat) (k : Key), getO (lendV i L) k = if k.1 = 1000001 ∧ i ≤ k.2 then (match L[k.2 - i]? with | some (.agg cs) => some (.var cs false) | _ => none) else none
  | [], i, k => by simp [lendV, getO]
  | x :: L, i, k => by
    have go : getO (lendV (i + 1) L) k = if k.1 = 1000001 ∧ i + 1 ≤ k.2 then (match L[k.2 - (i + 1)]? with | some (.agg cs) => some (.var cs false) | _ => none) else none := getO_lendV L (i + 1) k
    have step : ¬ k = (1000001, i) → getO (lendV (i + 1) L) k = if k.1 = 1000001 ∧ i ≤ k.2 then (match (x :: L)[k.2 - i]? with | some (.agg cs) => some (.var cs false) | _ => none) else none := by
      intro hne
      rw [go]
      by_cases h1 : k.1 = 1000001
      · have hk2 : k.2 ≠ i := fun h => hne (Prod.ext h1 h)
        by_cases h2 : i ≤ k.2
        · have : k.2 - i = (k.2 - (i + 1)) + 1 := by omega
          rw [if_pos ⟨h1, by omega⟩, if_pos ⟨h1, h2⟩, this]
          rfl
        · rw [if_neg (by omega), if_neg (by omega)]
      · rw [if_neg (fun h => h1 h.1), if_neg (fun h => h1 h.1)]
    have here : getO (lendV (i + 1) L) (1000001, i) = none := by
      rw [getO_lendV L (i + 1)]
      rw [if_neg (by rintro ⟨_, h⟩; exact absurd h (by show ¬ i + 1 ≤ i; omega))]
    by_cases hk : k = (1000001, i)
    · subst hk
      rw [if_pos ⟨rfl, Nat.le_refl _⟩]
      rw [show ((1000001, i) : Key).2 - i = 0 by show i - i = 0; omega]
      cases x with
      | agg cs => simp [lendV, getO]
      | _ => simpa [lendV] using here
    · cases x with
      | agg cs => simp only [lendV, getO]; rw [if_neg (fun h => hk h.symm)]; exact step hk
      | _ => simp only [lendV]; exact step hk
theorem getO_imp_ne {d j : Nat} {l : List AV} {k : Key} (hs : ∀ v ∈ l, (cellsOf v).length ≤ 100) (h : k.1 ≠ d) : getO (impT d j l).2 k = none := by
  rw [getO_impT d k l j hs, if_neg (fun e => h e.1)]
theorem impT_at {d j : Nat} {l : List AV} {i : Nat} {c : AV} (h : l[i]? = some c) : (impT d j l).1[i]? = some (impA d (j + 100 * i) c).1 := (impT_get d l j i).2 c h
theorem impT_at' {d j : Nat} {l : List AV} {i : Nat} {c : AV} (h : (impT d j l).1[i]? = some c) : ∃ c0, l[i]? = some c0 ∧ c = (impA d (j + 100 * i) c0).1 := by
  have hlt := (List.getElem?_eq_some_iff.1 h).1
  rw [(impT_get d l j i).1] at hlt
  have h1 : l[i]? = some l[i] := List.getElem?_eq_getElem hlt
  refine ⟨l[i], h1, ?_⟩
  have h2 := impT_at (d := d) (j := j) h1
  rw [h] at h2
  exact Option.some.inj h2
theorem impA_agg {d j : Nat} {c : AV} {cs : List AV} (h : (impA d j c).1 = .agg cs) : ∃ cs0, c = .agg cs0 ∧ cs = (impL d j cs0).1 := by
  cases c with
  | agg cs0 => exact ⟨cs0, rfl, by injection h with h; exact h.symm⟩
  | _ => simp [impA, imp1] at h
theorem lendIn_var {ls : List AV} {i : Nat} {cs : List AV} (h : ls[i]? = some (.agg cs)) : getO (lendIn ls) (1000001, i) = some (.var (impL 1000000 (0 + 100 * i) cs).1 false) := by
  unfold lendIn
  rw [getO_append, getO_lendV, if_pos ⟨rfl, Nat.zero_le _⟩]
  rw [show ((1000001, i) : Key).2 - 0 = i from rfl, impT_at h]
  rfl
theorem lendIn_inv {ls : List AV} {k : Key} {x : Ob} (hs : ∀ r ∈ ls, (cellsOf r).length ≤ 100) (hk : k.1 = 1000001) (h : getO (lendIn ls) k = some x) : ∃ cs, ls[k.2]? = some (.agg cs) ∧ x = .var (impL 1000000 (0 + 100 * k.2) cs).1 false := by
  unfold lendIn at h
  rw [getO_append, getO_imp_ne hs (by rw [hk]; omega), Option.or_none, getO_lendV, if_pos ⟨hk, Nat.zero_le _⟩] at h
  rw [Nat.sub_zero] at h
  split at h
  · rename_i cs hc
    obtain ⟨c0, h1, h2⟩ := impT_at' hc
    obtain ⟨cs0, rfl, h3⟩ := impA_agg h2.symm
    exact ⟨cs0, h1, by rw [← h3]; exact (Option.some.inj h).symm⟩
  · cases h
theorem lendV_key {L : List AV} {k : Key} (h : (getO (lendV 0 L) k).isSome) : k.1 = 1000001 ∧ ∃ cs, L[k.2]? = some (.agg cs) ∧ getO (lendV 0 L) k = some (.var cs false) := by
  rw [getO_lendV] at h ⊢
  split at h
  · rename_i hk
    rw [if_pos hk]
    rw [Nat.sub_zero] at h ⊢
    refine ⟨hk.1, ?_⟩
    split at h
    · rename_i cs hc
      exact ⟨cs, hc, rfl⟩
    · cases h
  · cases h
section
variable {P : Program} {G : Nat → AV} {w0 w w' w1 : World} {S0 S : Sb} {g g' : Key → Option Ob} {μ μ' ν : Key → Option (Nat × Nat)} {a : Act} {σ σ' : St} {d j : Nat} {R : Nat → Prop}
theorem widenR {g1 g2 : Key → Option Ob} {ν1 ν2 : Key → Option (Nat × Nat)} (hR : ∀ b, R b → b < w1.heap.size) (hg : ∀ k x, g1 k = some x → g2 k = some x ∧ ν2 k = ν1 k) (hν : ∀ k b base, ν2 k = some (b, base) → ν1 k = some (b, base) ∨ R b) :
    Wider (mkC w1 (S.less R) w g1 ν1) (mkC w1 S w g2 ν2) := by
  refine ⟨rfl, fun b i h => ?_, hg⟩
  rcases h with ⟨⟨h1, h2⟩, h3, h4⟩ | ⟨h1, h2, h3⟩
  · exact .inl ⟨⟨h1, fun h => h2 ⟨h, h4⟩⟩, h3⟩
  · have hnR : ¬ R b := fun hr => h1.elim (fun h => by have := hR b hr; omega) fun h => h.2 hr
    refine .inr ⟨h1.imp id fun h => h.1, h2, fun k base hk => ?_⟩
    rcases hν k b base hk with h | h
    · have h4 := h3 k base h
      cases hx : g1 k with
      | none => rw [hx] at h4; exact h4.elim
      | some x =>
        rw [(hg k x hx).1]
        rw [hx] at h4
        exact h4
    · exact absurd h hnR
def withR (gr g : Key → Option Ob) : Key → Option Ob := fun k => (gr k).or (g k)
def withN (gr : Key → Option Ob) (νr ν : Key → Option (Nat × Nat)) : Key → Option (Nat × Nat) := fun k => if (gr k).isSome then νr k else ν k
theorem hand {ρ : Key → Option Key} (hI : Inv G w0 S0 σ.t (getO σ.o) μ a w) (s1 : ∀ b i, Stab w0 S0 w (getO σ.o) μ b i → Stab w1 (S.less R) w (getO σ.o) μ b i) {rs l : List AV}
    (s2 : ∀ (k : Key) (b base n : Nat) (sz : Sz) (mu shr : Bool), μ k = some (b, base) → getO σ.o k = some (.tail n sz mu shr) → (∃ m i es, atm rs m i = some (.asl k es)) → Mine w1 (S.less R) b) (hsz : ∀ r ∈ rs, (cellsOf r).length ≤ 100) (he : expTR ρ σ.o (allKeys rs) rs = some l)
    {gr : Key → Option Ob} {νr : Key → Option (Nat × Nat)} (hr1 : ∀ k, (gr k).isSome → getO (impT d j l).2 k = none) (hr2 : ∀ k b base, (gr k).isSome → νr k = some (b, base) → R b) (hR : ∀ b, R b → b < w1.heap.size)
    (hρ : ∀ k k' b cs s, ρ k = some k' → getO σ.o k = some (.var cs s) → μ k = some (b, 0) → (∃ cs s, gr k' = some (.var cs s)) ∧ νr k' = some (b, 0)) :
    ∃ ν : Key → Option (Nat × Nat), (∀ k b base, ν k = some (b, base) → (getO (impT d j l).2 k).isSome ∧ (Mine w1 (S.less R) b ∧ b < w.heap.size)) ∧ (∀ k k' b i i', ν k = some (b, i) → ν k' = some (b, i') → k = k') ∧
      (∀ b i, Stab w0 S0 w (getO σ.o) μ b i → Stab w1 (S.less R) w (getO (impT d j l).2) ν b i) ∧
      Wider (mkC w1 (S.less R) w (getO (impT d j l).2) ν) (mkC w1 S w (withR gr (getO (impT d j l).2)) (withN gr νr ν)) ∧
      (∀ k x, getO (impT d j l).2 k = some x → ObRep (mkC w1 S w (withR gr (getO (impT d j l).2)) (withN gr νr ν)) k x) ∧
      (∀ (m i : Nat) (c c' : AV) (x : Value), i < 100 → atm rs m i = some c → atm l m i = some c' → LRep1 (mkC w0 S0 w (getO σ.o) μ) c x → LRep1 (mkC w1 S w (withR gr (getO (impT d j l).2)) (withN gr νr ν)) (imp1 d (j + (100 * m + i)) c').1 x) ∧
      ∀ (m : Nat) (r : AV) (y : Value), rs[m]? = some r → LRep (mkC w0 S0 w (getO σ.o) μ) r y → ∃ r', l[m]? = some r' ∧ LRepA (mkC w1 S w (withR gr (getO (impT d j l).2)) (withN gr νr ν)) (impA d (j + 100 * m) r').1 y := by
  have he' := expTR_blank he
  obtain ⟨hl1, hl2⟩ := expTR_get he
  obtain ⟨ν, n1, n2, n5, n3, n6, n4⟩ := out_rep (w1 := w1) (S1 := S.less R) hI s1 (rs := rs.map blankA) (l := l.map blankA) (fun k b base n sz mu shr m i h1 h2 ⟨es, h3⟩ => by
    rw [atm_blank] at h3
    obtain ⟨c, hc, hb⟩ := Option.map_eq_some_iff.1 h3
    refine s2 k b base n sz mu shr h1 h2 ⟨m, i, es, ?_⟩
    cases c <;> first | (cases hb; done) | (simp only [blank1] at hb; rw [hc, hb])) (fun r hr => by
    obtain ⟨r0, h0, rfl⟩ := List.mem_map.1 hr
    rw [cells_blank, List.length_map]
    exact hsz _ h0) (by rw [allKeys_blank]; exact he') d j
  rw [impT_blank] at n1 n5 n3 n6 n4
  have W : Wider (mkC w1 (S.less R) w (getO (impT d j l).2) ν) (mkC w1 S w (withR gr (getO (impT d j l).2)) (withN gr νr ν)) := by
    refine widenR hR (fun k x hx => ?_) fun k b base hk => ?_
    · have hn : gr k = none := by
        cases hg : gr k with
        | none => rfl
        | some y => have := hr1 k (by rw [hg]; rfl); rw [hx] at this; cases this
      exact ⟨by simp [withR, hn, hx], by simp [withN, hn]⟩
    · unfold withN at hk
      split at hk
      · rename_i hs
        exact .inr (hr2 k b base hs hk)
      · exact .inl hk
  have cell : ∀ (m i : Nat) (c c' : AV) (x : Value), i < 100 → atm rs m i = some c → atm l m i = some c' → LRep1 (mkC w0 S0 w (getO σ.o) μ) c x → LRep1 (mkC w1 S w (withR gr (getO (impT d j l).2)) (withN gr νr ν)) (imp1 d (j + (100 * m + i)) c').1 x := by
    intro m i c c' x hi hc hc' hx
    have hex : exp1R ρ σ.o (allKeys rs) c = some c' := by
      unfold atm at hc hc'
      simp only [Option.bind_eq_some_iff] at hc hc'
      obtain ⟨r, hr, hri⟩ := hc
      obtain ⟨r', hr', hri'⟩ := hc'
      obtain ⟨r1, hr1', hA⟩ := hl2 m r hr
      rw [hr'] at hr1'
      cases hr1'
      obtain ⟨_, h2, _⟩ := expAR_get hA
      obtain ⟨c1, hc1, hx1⟩ := h2 i c hri
      rw [hri'] at hc1
      cases hc1
      exact hx1
    obtain ⟨e1, e2, e3⟩ := exp1R_blank hex
    cases hl : live2 c with
    | true =>
      cases c <;> first | (cases hl; done) | skip
      rotate_left
      · simp only [exp1R, Option.some.injEq] at hex
        subst hex
        exact hx
      rename_i k off
      simp only [exp1R, Option.map_eq_some_iff] at hex
      obtain ⟨k', hk', rfl⟩ := hex
      obtain ⟨b, cs, s, h1, h2, h3⟩ := hx
      obtain ⟨⟨cs', s', h4⟩, h5⟩ := hρ k k' b cs s hk' h1 h2
      exact ⟨b, cs', s', by show withR _ _ _ = _; simp [withR, h4], by show withN _ _ _ _ = _; simp [withN, h4, h5], h3⟩
    | false =>
      have hd : blank1 c = c := blank1_dead hl
      have hd' : blank1 c' = c' := blank1_dead (by rw [e2]; exact hl)
      have := n6 m i c c' x hi (by rw [atm_blank, hc, Option.map_some, hd]) (by rw [atm_blank, hc', Option.map_some, hd']) (by rw [allKeys_blank]; rw [hd, hd'] at e1; exact e1) hx
      exact W.lrep1 this
  refine ⟨ν, fun k b base h => ⟨(n1 k b base h).1, (n1 k b base h).2.1⟩, n2, n5, W, fun k x hx => W.obrep hx (n3 k x hx), cell, fun m r y hr hy => ?_⟩
  obtain ⟨r', hr', hA⟩ := hl2 m r hr
  refine ⟨r', hr', ?_⟩
  obtain ⟨h1, h2, h3⟩ := expAR_get hA
  have hrl := hsz r (List.mem_of_getElem? hr)
  rcases h3 with ⟨cs, cs', rfl, rfl⟩ | h3
  · obtain ⟨vs, e1, e2, e3⟩ := hy
    have h1 : cs'.length = cs.length := h1
    refine ⟨vs, e1, by rw [(impL_get d cs' (j + 100 * m) 0).1, h1]; exact e2, fun i c x hc hx => ?_⟩
    have hlt : i < cs'.length := by
      have := (List.getElem?_eq_some_iff.1 hc).1
      rw [(impL_get d cs' (j + 100 * m) 0).1] at this
      exact this
    have hcs' : cs'[i]? = some cs'[i] := List.getElem?_eq_getElem hlt
    have hci := (impL_get d cs' (j + 100 * m) i).2 _ hcs'
    have hc : (impL d (j + 100 * m) cs').1[i]? = some c := hc
    rw [hci] at hc
    cases hc
    have hcs : cs[i]? = some (cs[i]'(by omega)) := List.getElem?_eq_getElem (by omega)
    obtain ⟨a1, a2⟩ := e3 i _ x hcs hx
    have hrl : cs.length ≤ 100 := hrl
    refine ⟨?_, a2⟩
    rw [Nat.add_assoc]
    exact cell m i _ _ x (by omega) (by unfold atm; rw [hr]; exact hcs) (by unfold atm; rw [hr']; exact hcs') a1
  · obtain ⟨s1, s2⟩ := exp1R_cells h3
    have ha : atm rs m 0 = some r := by unfold atm; rw [hr]; simp [s2]
    have ha' : atm l m 0 = some r' := by unfold atm; rw [hr']; simp [s1]
    have hy1 : LRep1 (mkC w0 S0 w (getO σ.o) μ) r y := by
      cases r with
      | agg cs => unfold exp1R exp1 frz1 at h3; cases h3
      | tup cs => unfold exp1R exp1 frz1 at h3; cases h3
      | _ => exact hy
    have hres := cell m 0 r r' y (by omega) ha ha' hy1
    have e : (impA d (j + 100 * m) r').1 = (imp1 d (j + 100 * m) r').1 := by
      have hn := (exp1R_blank h3).2.2
      cases r' with
      | agg cs => exact absurd rfl (hn cs)
      | _ => rfl
    rw [e]
    exact LRepA.of1 hres.atom hres
end
end Go.Proofs.YtmhdapjmndfkgaaGreatDoor.Eng
namespace Go.Proofs.YtmhdapjmndfkgaaGreatDoor.Eng
open Go Go.RowKit
section
variable {P : Program} {G : Nat → AV} {w0 w w' : World} {S0 : Sb} {g g' : Key → Option Ob} {μ μ' ν : Key → Option (Nat × Nat)} {a : Act} {σ σ' : St} {d j : Nat} {call : Call} {ow : Nat → Bool}
theorem sealE (hI : Inv G w0 S0 σ.t (getO σ.o) μ a w) (ks : List Key) : Ext w0 S0 w (getO σ.o) μ w (getO (sealO σ.o ks)) μ := by
  have E := hI.gxE (new := []) ks (Below.refl _ _) (ν := fun _ => none) (fun k b base h => by cases h)
  rw [hI.μx_none, ← getO_app, List.append_nil] at E
  exact E
theorem Inv.sealed (hI : Inv G w0 S0 σ.t (getO σ.o) μ a w) (ks : List Key) : Inv G w0 S0 σ.t (getO (sealO σ.o ks)) μ a w :=
  hI.ext (sealE hI ks) hI.inj fun k x h1 h2 => by
    rw [← List.append_nil σ.o, getO_app, gx_none h1] at h2
    cases h2
theorem impL_tag {d j : Nat} {cs : List AV} {T : TypeId} (h : tagOk cs T) : tagOk (impL d j cs).1 T := by
  intro T' h'
  cases cs with
  | nil => exact h T' h'
  | cons c l =>
    simp only [impL, List.head?_cons, Option.some.injEq] at h'
    refine h T' ?_
    rw [List.head?_cons, Option.some.injEq]
    cases c <;> simp only [imp1, reduceCtorEq] at h' <;> exact h'
theorem exp1_tag {o : List (Key × Ob)} {ks : List Key} {c : AV} {T : TypeId} (h : exp1 o ks c = some (.bnil T)) : False := by
  unfold exp1 at h
  split at h
  · split at h
    · simp only [Option.some.injEq] at h
      split at h <;> cases h
    · cases h
  · cases c <;> simp only [frz1, Option.some.injEq, reduceCtorEq] at h
theorem expLR_tag {ρ : Key → Option Key} {o : List (Key × Ob)} {ks : List Key} {cs cs' : List AV} {T : TypeId} (he : expLR ρ o ks cs = some cs') (h : tagOk cs T) : tagOk cs' T := by
  intro T' h'
  cases cs with
  | nil => simp only [expLR, Option.some.injEq] at he; subst he; exact h T' h'
  | cons c l =>
    simp only [expLR, Option.bind_eq_some_iff, Option.some.injEq] at he
    obtain ⟨y, hy, m, _, rfl⟩ := he
    simp only [List.head?_cons, Option.some.injEq] at h'
    subst h'
    refine h T' ?_
    rw [List.head?_cons, Option.some.injEq]
    cases c with
    | bnil T2 => simp only [exp1R, Option.some.injEq] at hy; exact hy
    | ptr k off => simp only [exp1R, Option.map_eq_some_iff] at hy; obtain ⟨_, _, hy⟩ := hy; cases hy
    | _ => simp only [exp1R] at hy; exact (exp1_tag hy).elim
theorem ren1_tag {ρ : Key → Key} {c : AV} {T : TypeId} (h : ren1 ρ c = .bnil T) : c = .bnil T := by
  cases c <;> simp only [ren1, reduceCtorEq] at h <;> exact h
theorem lendCs_get {o : List (Key × Ob)} : ∀ {who : List Key} {cs : List AV}, lendCs o who = some cs → cs.length = who.length ∧ ∀ (q : Nat) (k : Key), who[q]? = some k → ∃ c, getO o k = some (.var c false) ∧ cs[q]? = some (.agg c)
  | [], cs, h => by simp only [lendCs, Option.some.injEq] at h; subst h; exact ⟨rfl, fun q k h => by simp at h⟩
  | k :: who, cs, h => by
    simp only [lendCs] at h
    split at h
    · rename_i c hk
      rw [Option.map_eq_some_iff] at h
      obtain ⟨m, hm, rfl⟩ := h
      obtain ⟨h1, h2⟩ := lendCs_get hm
      refine ⟨by simp [h1], fun q k' hq => ?_⟩
      cases q with
      | zero => simp at hq; subst hq; exact ⟨c, hk, rfl⟩
      | succ q => exact h2 q k' (by simpa using hq)
    · cases h
theorem inR_inv : ∀ {who : List Key} {i : Nat} {k k' : Key}, inR who i k = some k' → ∃ q, who[q]? = some k ∧ k' = (1000001, i + q)
  | [], i, k, k', h => by cases h
  | k0 :: who, i, k, k', h => by
    simp only [inR] at h
    split at h
    · rename_i h0
      cases h
      exact ⟨0, by rw [h0]; rfl, rfl⟩
    · obtain ⟨q, h1, h2⟩ := inR_inv h
      exact ⟨q + 1, by simpa using h1, by rw [h2]; congr 1; omega⟩
theorem atm_key {rs : List AV} {m i : Nat} {k : Key} {es : List (List AV)} (h : atm rs m i = some (.asl k es)) : k ∈ allKeys rs := by
  unfold atm at h
  obtain ⟨r, hr, hi⟩ := Option.bind_eq_some_iff.1 h
  unfold allKeys
  rw [List.mem_flatMap]
  refine ⟨r, List.mem_of_getElem? hr, ?_⟩
  rw [keys_cells, List.mem_flatMap]
  exact ⟨_, List.mem_of_getElem? hi, by simp [keys1]⟩
def lendSb (w0 : World) (S0 : Sb) (w : World) (g : Key → Option Ob) (μ : Key → Option (Nat × Nat)) (who K : List Key) : Sb := ⟨Stab w0 S0 w g μ, fun b => ∃ k, (k ∈ who ∨ k ∈ K) ∧ ∃ i, μ k = some (b, i), fun _ _ => False⟩
def rootsB (μ : Key → Option (Nat × Nat)) (who : List Key) (b : Nat) : Prop := ∃ k, k ∈ who ∧ ∃ i, μ k = some (b, i)
def whoN (μ : Key → Option (Nat × Nat)) (who : List Key) (k : Key) : Option (Nat × Nat) := if k.1 = 1000001 then (who[k.2]?).bind μ else none
section
variable {who K : List Key}
theorem lend_nR (hI : Inv G w0 S0 σ.t (getO σ.o) μ a w) (hwho : ∀ k ∈ who, ∃ cs, getO σ.o k = some (.var cs false)) (b i : Nat) (h : Stab w0 S0 w (getO σ.o) μ b i) : ¬ rootsB μ who b := by
  rintro ⟨k, hk, i', hμ⟩
  rcases h with ⟨⟨h1, h2⟩, _⟩ | ⟨_, _, h3⟩
  · rcases (hI.pl k b i' hμ).2.1 with h | h
    · omega
    · exact h2 h
  · obtain ⟨cs, hc⟩ := hwho k hk
    have := h3 k i' hμ
    rw [hc] at this
    cases this
theorem lend_s1 (hI : Inv G w0 S0 σ.t (getO σ.o) μ a w) (hwho : ∀ k ∈ who, ∃ cs, getO σ.o k = some (.var cs false)) (b i : Nat) (h : Stab w0 S0 w (getO σ.o) μ b i) : Stab w ((lendSb w0 S0 w (getO σ.o) μ who K).less (rootsB μ who)) w (getO σ.o) μ b i := by
  have hn := lend_nR hI hwho b i h
  by_cases ho : ∃ k, (k ∈ who ∨ k ∈ K) ∧ ∃ i, μ k = some (b, i)
  · refine .inr ⟨.inr ⟨ho, hn⟩, stab_lt hI b i h, fun k base hk => ?_⟩
    rcases h with ⟨⟨h1, h2⟩, _⟩ | ⟨_, _, h3⟩
    · exfalso
      rcases (hI.pl k b base hk).2.1 with h | h
      · omega
      · exact h2 h
    · exact h3 k base hk
  · exact .inl ⟨⟨stab_lt hI b i h, fun h => ho h.1⟩, h, hn⟩
theorem lend_s2 (hI : Inv G w0 S0 σ.t (getO σ.o) μ a w) (hwho : ∀ k ∈ who, ∃ cs, getO σ.o k = some (.var cs false)) {k : Key} {b base n : Nat} {sz : Sz} {mu shr : Bool} (h1 : μ k = some (b, base)) (h2 : getO σ.o k = some (.tail n sz mu shr)) (hk : k ∈ K) : Mine w ((lendSb w0 S0 w (getO σ.o) μ who K).less (rootsB μ who)) b := by
  refine .inr ⟨⟨k, .inr hk, base, h1⟩, ?_⟩
  rintro ⟨k', hk', i', hμ⟩
  obtain rfl := hI.inj _ _ _ _ _ h1 hμ
  obtain ⟨cs, hc⟩ := hwho k hk'
  rw [h2] at hc
  cases hc
end
def lendVs (a : Act) : List Bool → List Operand → List Value
  | _, [] => []
  | fs, x :: l => (bif fs.headD false then [a.eval x] else []) ++ lendVs a fs.tail l
structure MkOk (G : Nat → AV) (a : Act) (who : List Key) (ls t : List AV) (xs : List Operand) (fs : List Bool) (j : Nat) (as : List AV) : Prop where
  len : as.length = xs.length
  arg : ∀ (i : Nat) (c : AV) (x : Operand), as[i]? = some c → xs[i]? = some x →
      (∃ (q : Nat) (y : AV), (lendSs t G fs (xs.map cX))[q]? = some (ev t G (cX x)) ∧ (lendVs a fs xs)[q]? = some (a.eval x) ∧ ls[j + q]? = some y ∧ c = (impA 1000000 (100 * (j + q)) y).1) ∨
      (∃ k off k', ev t G (cX x) = .ptr k off ∧ inR who 0 k = some k' ∧ c = .ptr k' off) ∨
      (frz (ev t G (cX x)) = some c ∧ ∀ k ∈ keys (ev t G (cX x)), k ∈ lendKs t G fs (xs.map cX))
  sl : ∀ (q : Nat) (s : AV), (lendSs t G fs (xs.map cX))[q]? = some s → ∃ (i : Nat) (x : Operand) (y : AV), xs[i]? = some x ∧ s = ev t G (cX x) ∧ (lendVs a fs xs)[q]? = some (a.eval x) ∧ ls[j + q]? = some y ∧ as[i]? = some (impA 1000000 (100 * (j + q)) y).1
theorem lendMk_run {a : Act} {who : List Key} {ls : List AV} {t : List AV} : ∀ (xs : List Operand) (fs : List Bool) (j : Nat) (as : List AV), lendMk t G who ls j fs (xs.map cX) = some as → MkOk G a who ls t xs fs j as
  | [], fs, j, as, h => by
    simp only [List.map_nil, lendMk, Option.some.injEq] at h
    subst h
    exact ⟨rfl, fun i c x h => by simp at h, fun q s h => by simp [lendSs] at h⟩
  | x :: xs, fs, j, as, h => by
    simp only [List.map_cons, lendMk] at h
    cases hf : fs.headD false with
    | true =>
      rw [hf] at h
      simp only [cond_true] at h
      split at h
      · rename_i y hy
        rw [Option.map_eq_some_iff] at h
        obtain ⟨m, hm, rfl⟩ := h
        obtain ⟨h1, h2, h3⟩ := lendMk_run (a := a) xs fs.tail (j + 1) m hm
        have eS : lendSs t G fs (cX x :: xs.map cX) = ev t G (cX x) :: lendSs t G fs.tail (xs.map cX) := by simp only [lendSs, hf]; rfl
        have eV : lendVs a fs (x :: xs) = a.eval x :: lendVs a fs.tail xs := by simp only [lendVs, hf]; rfl
        have eK : lendKs t G fs (cX x :: xs.map cX) = lendKs t G fs.tail (xs.map cX) := by simp only [lendKs, hf]; rfl
        refine ⟨by simp [h1], fun i c z hc hz => ?_, fun q s hs => ?_⟩
        · cases i with
          | zero =>
            simp at hc hz
            subst hc hz
            exact .inl ⟨0, y, by rw [List.map_cons, eS]; rfl, by rw [eV]; rfl, hy, rfl⟩
          | succ i =>
            rcases h2 i c z (by simpa using hc) (by simpa using hz) with ⟨q, y', e1, e2, e3, e4⟩ | h | ⟨e1, e2⟩
            · exact .inl ⟨q + 1, y', by rw [List.map_cons, eS]; simpa using e1, by rw [eV]; simpa using e2, by rw [show j + (q + 1) = j + 1 + q by omega]; exact e3, by rw [show j + (q + 1) = j + 1 + q by omega]; exact e4⟩
            · exact .inr (.inl h)
            · exact .inr (.inr ⟨e1, fun k hk => by rw [List.map_cons, eK]; exact e2 k hk⟩)
        · rw [List.map_cons, eS] at hs
          cases q with
          | zero =>
            simp at hs
            subst hs
            exact ⟨0, x, y, rfl, rfl, by rw [eV]; rfl, hy, rfl⟩
          | succ q =>
            obtain ⟨i, z, y', e1, e2, e3, e4, e5⟩ := h3 q s (by simpa using hs)
            exact ⟨i + 1, z, y', by simpa using e1, e2, by rw [eV]; simpa using e3, by rw [show j + (q + 1) = j + 1 + q by omega]; exact e4, by rw [show j + (q + 1) = j + 1 + q by omega]; simpa using e5⟩
      · cases h
    | false =>
      rw [hf] at h
      simp only [cond_false] at h
      have eS : lendSs t G fs (cX x :: xs.map cX) = lendSs t G fs.tail (xs.map cX) := by simp only [lendSs, hf]; rfl
      have eV : lendVs a fs (x :: xs) = lendVs a fs.tail xs := by simp only [lendVs, hf]; rfl
      have eK : lendKs t G fs (cX x :: xs.map cX) = (bif live1 (ev t G (cX x)) then [] else keys (ev t G (cX x))) ++ lendKs t G fs.tail (xs.map cX) := by simp only [lendKs, hf, Bool.false_or]
      have go : ∀ (c0 : AV) (m : List AV), lendMk t G who ls j fs.tail (xs.map cX) = some m → as = c0 :: m →
          ((∃ k off k', ev t G (cX x) = .ptr k off ∧ inR who 0 k = some k' ∧ c0 = .ptr k' off) ∨ (frz (ev t G (cX x)) = some c0 ∧ live1 (ev t G (cX x)) = false)) → MkOk G a who ls t (x :: xs) fs j as := by
        intro c0 m hm e h0
        subst e
        obtain ⟨h1, h2, h3⟩ := lendMk_run (a := a) xs fs.tail j m hm
        refine ⟨by simp [h1], fun i c z hc hz => ?_, fun q s hs => ?_⟩
        · cases i with
          | zero =>
            simp at hc hz
            subst hc hz
            rcases h0 with h0 | ⟨h0, hl⟩
            · exact .inr (.inl h0)
            · refine .inr (.inr ⟨h0, fun k hk => ?_⟩)
              rw [List.map_cons, eK, hl]
              exact List.mem_append_left _ hk
          | succ i =>
            rcases h2 i c z (by simpa using hc) (by simpa using hz) with ⟨q, y', e1, e2, e3, e4⟩ | h | ⟨e1, e2⟩
            · exact .inl ⟨q, y', by rw [List.map_cons, eS]; exact e1, by rw [eV]; exact e2, e3, e4⟩
            · exact .inr (.inl h)
            · exact .inr (.inr ⟨e1, fun k hk => by rw [List.map_cons, eK]; exact List.mem_append_right _ (e2 k hk)⟩)
        · rw [List.map_cons, eS] at hs
          obtain ⟨i, z, y', e1, e2, e3, e4, e5⟩ := h3 q s hs
          exact ⟨i + 1, z, y', by simpa using e1, e2, by rw [eV]; exact e3, e4, by simpa using e5⟩
      split at h
      · rename_i k off hk
        simp only [Option.bind_eq_some_iff, Option.map_eq_some_iff] at h
        obtain ⟨k', hk', m, hm, rfl⟩ := h
        exact go _ m hm rfl (.inl ⟨k, off, k', hk, hk', rfl⟩)
      · rename_i hne
        simp only [Option.bind_eq_some_iff, Option.map_eq_some_iff] at h
        obtain ⟨y, hy, m, hm, rfl⟩ := h
        refine go _ m hm rfl (.inr ⟨hy, ?_⟩)
        cases he : ev t G (cX x) <;> first | rfl | exact absurd he (hne _ _)
theorem lend_given (hI0 : Inv G w0 S0 σ.t (getO σ.o) μ a w) {xs : Array Operand} {fs : List Bool} {who : List Key} {cs ls as : List AV} (hcs : lendCs (sealO σ.o (lendKs σ.t G fs (xs.toList.map cX))) who = some cs) (hnd : who.Nodup)
    (he : expTR (inR who 0) (sealO σ.o (lendKs σ.t G fs (xs.toList.map cX))) (allKeys (cs ++ lendSs σ.t G fs (xs.toList.map cX))) (cs ++ lendSs σ.t G fs (xs.toList.map cX)) = some ls)
    (hmk : lendMk σ.t G who ls who.length fs (xs.toList.map cX) = some as) (hsz : ∀ r ∈ cs ++ lendSs σ.t G fs (xs.toList.map cX), (cellsOf r).length ≤ 100) (hok : ∀ s ∈ lendSs σ.t G fs (xs.toList.map cX), ∃ k es, s = .asl k es) :
    ∃ ν0, Given G w (lendSb w0 S0 w (getO (sealO σ.o (lendKs σ.t G fs (xs.toList.map cX)))) μ who (allKeys (cs ++ lendSs σ.t G fs (xs.toList.map cX)))) ls as (xs.map a.eval) (fun q => (lendVs a fs xs.toList).getD (q - who.length) default) ν0 ∧
      (∀ (q : Nat) (k : Key), who[q]? = some k → ν0 (1000001, q) = μ k) ∧ (∀ (q : Nat) (k : Key), who[q]? = some k → ∃ c, ls[q]? = some (AV.agg c)) ∧ (∀ (q : Nat) (c : List AV), ls[q]? = some (AV.agg c) → q < who.length) ∧ ls.length = (cs ++ lendSs σ.t G fs (xs.toList.map cX)).length := by
  generalize hks : lendKs σ.t G fs (xs.toList.map cX) = ks at hcs he ⊢
  generalize hss : lendSs σ.t G fs (xs.toList.map cX) = ss at he hsz hok ⊢
  have hI : Inv G w0 S0 (⟨σ.t, sealO σ.o ks⟩ : St).t (getO (⟨σ.t, sealO σ.o ks⟩ : St).o) μ a w := hI0.sealed ks
  obtain ⟨hc1, hc2⟩ := lendCs_get hcs
  have hwho : ∀ k ∈ who, ∃ c, getO (⟨σ.t, sealO σ.o ks⟩ : St).o k = some (.var c false) := by
    intro k hk
    obtain ⟨q, hq, rfl⟩ := List.mem_iff_getElem.1 hk
    obtain ⟨c, h1, _⟩ := hc2 q _ (List.getElem?_eq_getElem hq)
    exact ⟨c, h1⟩
  generalize hK : allKeys (cs ++ ss) = K at he ⊢
  obtain ⟨hl1, hl2⟩ := expTR_get he
  have hlsz : ∀ r ∈ ls, (cellsOf r).length ≤ 100 := by
    intro r' hr'
    obtain ⟨q, hq, rfl⟩ := List.mem_iff_getElem.1 hr'
    obtain ⟨r1, e1, e2⟩ := hl2 q _ (List.getElem?_eq_getElem (by omega))
    rw [List.getElem?_eq_getElem hq] at e1
    cases e1
    rw [(expAR_get e2).1]
    exact hsz _ (List.getElem_mem _)
  have hagg : ∀ (q : Nat) (c : List AV), ls[q]? = some (AV.agg c) → q < who.length := by
    intro k2 cs0 e4
    have hlt : k2 < (cs ++ ss).length := by rw [← hl1]; exact (List.getElem?_eq_some_iff.1 e4).1
    cases hd : decide (k2 < who.length) with
    | true => exact of_decide_eq_true hd
    | false =>
      exfalso
      have hge := of_decide_eq_false hd
      obtain ⟨r', f1, f2⟩ := hl2 k2 _ (List.getElem?_eq_getElem hlt)
      rw [e4] at f1
      cases f1
      have hin : (cs ++ ss)[k2]? = ss[k2 - cs.length]? := List.getElem?_append_right (by omega)
      rw [List.getElem?_eq_getElem hlt] at hin
      rcases (expAR_get f2).2.2 with ⟨c1, c2, h1, _⟩ | h
      · obtain ⟨k', es', h2⟩ := hok _ (List.mem_of_getElem? hin.symm)
        rw [h2] at h1
        cases h1
      · exact absurd rfl ((exp1R_blank h).2.2 _)
  have hls : ∀ (q : Nat) (k : Key), who[q]? = some k → ∃ (c c' : List AV) (b : Nat), getO (sealO σ.o ks) k = some (.var c false) ∧ (cs ++ ss)[q]? = some (AV.agg c) ∧ ls[q]? = some (AV.agg c') ∧ μ k = some (b, 0) ∧ ∃ xs T, w.heap[b]? = some (.cells xs T (0, 0)) ∧ LRep (mkC w0 S0 w (getO (sealO σ.o ks)) μ) (.agg c) (.agg xs) ∧ tagOk c' T := by
    intro q k hq
    obtain ⟨c, h1, h2⟩ := hc2 q k hq
    have hlt : q < cs.length := by rw [hc1]; exact (List.getElem?_eq_some_iff.1 hq).1
    have h3 : (cs ++ ss)[q]? = some (.agg c) := by rw [List.getElem?_append_left hlt]; exact h2
    obtain ⟨r', e1, e2⟩ := hl2 q _ h3
    obtain ⟨b, xs, T, f1, f2, f3, f4⟩ := hI.ob k _ h1
    rcases (expAR_get e2).2.2 with ⟨_, c', _, rfl⟩ | h
    · simp only [expAR, Option.map_eq_some_iff] at e2
      obtain ⟨c2, e2, e3⟩ := e2
      cases e3
      exact ⟨c, c', b, h1, h3, e1, f1, xs, T, f2, ⟨xs, rfl, f3, fun i c x hc hx => f4.1 i c x hc hx⟩, expLR_tag e2 f4.2⟩
    · simp [exp1R, exp1, frz1] at h
  have hgr : ∀ (q : Nat) (k : Key), who[q]? = some k → ∃ c', getO (lendV 0 (impT 1000000 0 ls).1) (1000001, q) = some (.var c' false) := by
    intro q k hq
    obtain ⟨_, c', _, _, _, h3, _⟩ := hls q k hq
    refine ⟨(impL 1000000 (0 + 100 * q) c').1, ?_⟩
    rw [getO_lendV, if_pos ⟨rfl, Nat.zero_le _⟩, show ((1000001, q) : Key).2 - 0 = q from rfl, impT_at h3]
    rfl
  obtain ⟨ν', n1, n2, n3, W, n4, n5, n6⟩ := hand (σ := ⟨σ.t, sealO σ.o ks⟩) (ρ := inR who 0) (w1 := w) (S := lendSb w0 S0 w (getO (sealO σ.o ks)) μ who K) (R := rootsB μ who) (rs := cs ++ ss) (l := ls) (d := 1000000) (j := 0) (gr := getO (lendV 0 (impT 1000000 0 ls).1)) (νr := whoN μ who) hI (lend_s1 hI hwho) (fun k b base n sz mu shr h1 h2 ⟨m, i, es, h3⟩ => lend_s2 hI hwho h1 h2 (by rw [← hK]; exact atm_key h3)) hsz (by rw [hK]; exact he)
    (fun k hk => getO_imp_ne hlsz (by rw [(lendV_key hk).1]; omega)) (fun k b base hk hν => by
      unfold whoN at hν
      split at hν
      · obtain ⟨k0, h1, h2⟩ := Option.bind_eq_some_iff.1 hν
        exact ⟨k0, List.mem_of_getElem? h1, base, h2⟩
      · cases hν) (fun b ⟨k, _, i, hμ⟩ => (hI.pl k b i hμ).2.2) (fun k k' b c s hk hg hμ => by
      obtain ⟨q, h1, rfl⟩ := inR_inv hk
      rw [Nat.zero_add]
      obtain ⟨c', h2⟩ := hgr q k h1
      refine ⟨⟨_, _, h2⟩, ?_⟩
      unfold whoN
      rw [if_pos rfl]
      show (who[q]?).bind μ = _
      rw [h1]
      exact hμ)
  have hgI : withR (getO (lendV 0 (impT 1000000 0 ls).1)) (getO (impT 1000000 0 ls).2) = getO (lendIn ls) := by
    funext k
    unfold lendIn withR
    rw [getO_append]
  rw [hgI] at W n4 n5 n6
  have hrs : ∀ k b base, withN (getO (lendV 0 (impT 1000000 0 ls).1)) (whoN μ who) ν' k = some (b, base) → (∃ k0, k.1 = 1000001 ∧ who[k.2]? = some k0 ∧ μ k0 = some (b, base) ∧ (getO (lendV 0 (impT 1000000 0 ls).1) k).isSome) ∨ ((getO (impT 1000000 0 ls).2 k).isSome ∧ ν' k = some (b, base)) := by
    intro k b base h
    unfold withN at h
    split at h
    · rename_i hs
      unfold whoN at h
      split at h
      · rename_i h1
        obtain ⟨k0, h2, h3⟩ := Option.bind_eq_some_iff.1 h
        exact .inl ⟨k0, h1, h2, h3, hs⟩
      · cases h
    · exact .inr ⟨(n1 k b base h).1, h⟩
  have hroot : ∀ (q : Nat) (k : Key), who[q]? = some k → withN (getO (lendV 0 (impT 1000000 0 ls).1)) (whoN μ who) ν' (1000001, q) = μ k := by
    intro q k hq
    obtain ⟨c', h1⟩ := hgr q k hq
    unfold withN
    rw [h1]
    unfold whoN
    simp [hq]
  refine ⟨withN (getO (lendV 0 (impT 1000000 0 ls).1)) (whoN μ who) ν', ⟨?_, ?_, ?_, ?_, ?_, ?_, ?_, ?_, ?_, hlsz, ?_⟩, hroot, fun q k hq => (by obtain ⟨_, c', _, _, _, h3, _⟩ := hls q k hq; exact ⟨c', h3⟩), hagg, hl1⟩
  · exact fun b i h => stab_lt hI b i h
  · exact ⟨hI.gl, hI.laid.bel hI.unlent hI.below⟩
  · rintro n c hn ⟨k, _, i, hμ⟩
    rcases (hI.pl k n i hμ).2.1 with h | h
    · obtain ⟨xs, T, fr, h1, _⟩ := hI.laid n c hn
      have := (Array.getElem?_eq_some_iff.1 h1).1
      omega
    · exact hI.unlent n c hn h
  · obtain ⟨h1, _⟩ := lendMk_run (a := a) xs.toList fs who.length as hmk
    rw [h1]; simp
  · intro k b base h
    rcases hrs k b base h with ⟨k0, e1, e2, e3, e4⟩ | ⟨e1, e2⟩
    · refine ⟨?_, ⟨k0, .inl (List.mem_of_getElem? e2), base, e3⟩, (hI.pl k0 b base e3).2.2⟩
      rw [← hgI]
      unfold withR
      cases hx : getO (lendV 0 (impT 1000000 0 ls).1) k with
      | none => rw [hx] at e4; cases e4
      | some x => rfl
    · obtain ⟨f1, f2, f3⟩ := n1 k b base e2
      refine ⟨?_, f2.elim (fun h => by omega) (fun h => h.1), f3⟩
      rw [← hgI]
      unfold withR
      cases getO (lendV 0 (impT 1000000 0 ls).1) k with
      | none => simpa using e1
      | some x => rfl
  · intro k k' b i i' h h'
    have hne : ∀ (k0 : Key) (q i : Nat), who[q]? = some k0 → μ k0 = some (b, i) → ∀ k' i', ν' k' = some (b, i') → False := by
      intro k0 q i hq hμ k' i' hν'
      rcases (n1 k' b i' hν').2.1 with h | h
      · have := (hI.pl k0 b i hμ).2.2; omega
      · exact h.2 ⟨k0, List.mem_of_getElem? hq, i, hμ⟩
    rcases hrs k b i h with ⟨k0, e1, e2, e3, e4⟩ | ⟨e1, e2⟩ <;> rcases hrs k' b i' h' with ⟨k0', e1', e2', e3', e4'⟩ | ⟨e1', e2'⟩
    · obtain rfl := hI.inj _ _ _ _ _ e3 e3'
      refine Prod.ext (e1.trans e1'.symm) ?_
      have hlt := (List.getElem?_eq_some_iff.1 e2).1
      exact (List.getElem?_inj hlt hnd).1 (e2.trans e2'.symm)
    · exact (hne k0 _ i e2 e3 k' i' e2').elim
    · exact (hne k0' _ i' e2' e3' k i e2).elim
    · exact n2 _ _ _ _ _ e2 e2'
  · intro k x hx
    have hx0 := hx
    rw [← hgI] at hx
    unfold withR at hx
    cases hg : getO (lendV 0 (impT 1000000 0 ls).1) k with
    | none => rw [hg, Option.none_or] at hx; exact n4 k x hx
    | some y =>
      rw [hg, Option.some_or, Option.some.injEq] at hx
      subst hx
      obtain ⟨e1, cs1, e2, e3⟩ := lendV_key (k := k) (L := (impT 1000000 0 ls).1) (by rw [hg]; rfl)
      rw [hg] at e3
      cases e3
      obtain ⟨c0, e4, e5⟩ := impT_at' e2
      obtain ⟨cs0, rfl, rfl⟩ := impA_agg e5.symm
      obtain ⟨k1, k2⟩ := k
      subst e1
      have hq : k2 < who.length := hagg k2 _ e4
      obtain ⟨k0, hk0⟩ : ∃ k0, who[k2]? = some k0 := ⟨_, List.getElem?_eq_getElem hq⟩
      obtain ⟨c, c', b, f1, f2, f3, f4, xs, T, f5, f6, f7⟩ := hls k2 k0 hk0
      obtain ⟨r', p1, p2⟩ := n6 _ _ _ f2 f6
      rw [e4] at p1
      cases p1
      obtain ⟨vs, q1, q2, q3⟩ := p2
      cases q1
      rw [e4] at f3
      cases f3
      exact ⟨b, xs, T, by rw [← f4]; exact hroot k2 k0 hk0, f5, q2, fun i c x hc hx => q3 i c x hc hx, impL_tag f7⟩
  · intro i c x hc hx
    obtain ⟨z, hz, rfl⟩ : ∃ z, xs.toList[i]? = some z ∧ a.eval z = x := by
      rw [Array.getElem?_map, Option.map_eq_some_iff] at hx
      obtain ⟨z, h1, h2⟩ := hx
      exact ⟨z, by rw [Array.getElem?_toList]; exact h1, h2⟩
    rcases (lendMk_run (a := a) xs.toList fs who.length as hmk).arg i c z hc hz with ⟨q, y, e1, e2, e3, rfl⟩ | ⟨k, off, k', e1, e2, rfl⟩ | ⟨e1, e2⟩
    · rw [hss] at e1
      obtain ⟨r', p1, p2⟩ := n6 (who.length + q) _ (a.eval z) (by rw [List.getElem?_append_right (by omega), hc1, Nat.add_sub_cancel_left]; exact e1) (hI.ev z)
      rw [e3] at p1
      cases p1
      rw [Nat.zero_add] at p2
      exact p2.lr
    · obtain ⟨q, h1, rfl⟩ := inR_inv e2
      rw [Nat.zero_add]
      have hz' := hI.ev z
      rw [show Eng.ev (⟨σ.t, sealO σ.o ks⟩ : St).t G (cX z) = _ from e1] at hz'
      obtain ⟨b, c, s, h2, h3, h4⟩ := hz'
      obtain ⟨c1, c', b', _, _, f3, f4, _⟩ := hls q k h1
      exact ⟨b, _, _, lendIn_var f3, (hroot q k h1).trans h3, h4⟩
    · have hf : FRep w (Stab w0 S0 w (getO (sealO σ.o ks)) μ) c (a.eval z) := frz_rep (sealE hI0 ks) hI0.inj e1 (fun k hk y hy => by
        rw [getO_sealO, if_pos (by rw [List.contains_iff_mem]; rw [← hks]; exact e2 k hk), hy]
        rfl) (hI0.ev z)
      exact (FRep.la (C := mkC w (lendSb w0 S0 w (getO (sealO σ.o ks)) μ who K) w (getO (lendIn ls)) (withN (getO (lendV 0 (impT 1000000 0 ls).1)) (whoN μ who) ν')) (hf.mono fun b i h => ⟨W.S b i (n3 b i h), rfl⟩)).lr
  · intro q c hq hagg
    have hlt : q < (cs ++ ss).length := by rw [← hl1]; exact (List.getElem?_eq_some_iff.1 hq).1
    cases hd : decide (q < who.length) with
    | true =>
      obtain ⟨_, c', _, _, _, f3, _⟩ := hls q _ (List.getElem?_eq_getElem (of_decide_eq_true hd))
      rw [hq] at f3
      cases f3
      cases hagg
    | false =>
      have hge := of_decide_eq_false hd
      obtain ⟨i, z, y, e1, e2, e3, e4, e5⟩ := (lendMk_run (a := a) xs.toList fs who.length as hmk).sl (q - who.length) _ (by
        rw [hss]
        have hin : (cs ++ ss)[q]? = ss[q - cs.length]? := List.getElem?_append_right (by omega)
        rw [hc1] at hin
        rw [← hin]
        exact List.getElem?_eq_getElem hlt)
      rw [show who.length + (q - who.length) = q by omega] at e4 e5
      rw [hq] at e4
      cases e4
      refine ⟨i, e5, ?_⟩
      rw [Array.getElem?_map, show xs[i]? = some z by rw [← Array.getElem?_toList]; exact e1]
      simp only [Option.map_some]
      rw [List.getD_eq_getElem?_getD, e3]
      rfl
  · exact fun b i _ h => W.S b i (n3 b i h)
end
end Go.Proofs.YtmhdapjmndfkgaaGreatDoor.Eng
namespace Go.Proofs.YtmhdapjmndfkgaaGreatDoor.Eng
open Go Go.RowKit
set_option linter.unusedSectionVars false
section
variable {P : Program} {G : Nat → AV} {w0 w w' : World} {S0 : Sb} {T : List AV} {g g' : Key → Option Ob} {μ μ' ν : Key → Option (Nat × Nat)} {a : Act} {σ σ' : St} {d j : Nat} {call : Call} {ow : Nat → Bool} {o : Oper} {op : COp}
theorem lendSl_inv : ∀ {ss ys : List AV} {k : Key} {n : Nat} {y : AV}, lendSl ss ys k = some (n, y) → ∃ (q : Nat) (es : List (List AV)), ss[q]? = some (.asl k es) ∧ ys[q]? = some y ∧ n = es.length
  | [], ys, k, n, y, h => by simp [lendSl] at h
  | s :: ss, [], k, n, y, h => by cases s <;> simp [lendSl] at h
  | s :: ss, z :: ys, k, n, y, h => by
    have go : lendSl ss ys k = some (n, y) → ∃ (q : Nat) (es : List (List AV)), (s :: ss)[q]? = some (.asl k es) ∧ (z :: ys)[q]? = some y ∧ n = es.length := fun h => by
      obtain ⟨q, es, h1, h2, h3⟩ := lendSl_inv h
      exact ⟨q + 1, es, by simpa using h1, by simpa using h2, h3⟩
    cases s with
    | asl k0 es0 =>
      simp only [lendSl] at h
      split at h
      · rename_i h0
        cases h
        subst h0
        exact ⟨0, es0, rfl, rfl, rfl⟩
      · exact go h
    | _ => simp only [lendSl] at h; exact go h
theorem lendSet_get : ∀ (who : List Key) (L : List AV) (o : List (Key × Ob)), who.Nodup → (∀ (q : Nat) (k : Key), who[q]? = some k → ∃ cs, L[q]? = some (AV.agg cs)) →
    (∀ k, k ∉ who → getO (lendSet o who L) k = getO o k) ∧ ∀ (q : Nat) (k : Key) (cs : List AV), who[q]? = some k → L[q]? = some (AV.agg cs) → getO (lendSet o who L) k = some (.var cs false)
  | [], L, o, _, _ => ⟨fun k _ => rfl, fun q k cs h => by simp at h⟩
  | k0 :: who, L, o, hn, hL => by
    obtain ⟨cs0, h0⟩ := hL 0 k0 rfl
    match L, h0, hL with
    | [], h0, _ => simp at h0
    | x :: L, h0, hL =>
      simp at h0
      subst h0
      rw [List.nodup_cons] at hn
      simp only [lendSet]
      obtain ⟨h1, h2⟩ := lendSet_get who L (setO o k0 (.var cs0 false)) hn.2 fun q k hq => by
        obtain ⟨cs, h⟩ := hL (q + 1) k (by simpa using hq)
        exact ⟨cs, by simpa using h⟩
      refine ⟨fun k hk => ?_, fun q k cs hq hc => ?_⟩
      · rw [List.mem_cons, not_or] at hk
        rw [h1 k hk.2, getO_setO, if_neg fun h => hk.1 h.symm]
      · cases q with
        | zero =>
          simp at hq hc
          subst hq hc
          rw [h1 _ hn.1, getO_setO, if_pos rfl]
        | succ q => exact h2 q k cs (by simpa using hq) (by simpa using hc)
theorem getO_filter (p : Key → Bool) : ∀ (o : List (Key × Ob)) (k : Key), getO (o.filter fun x => p x.1) k = if p k then getO o k else none
  | [], k => by simp [getO]
  | (k0, x) :: o, k => by
    rw [List.filter_cons]
    by_cases h : k0 = k
    · subst h
      by_cases hp : p k0 = true
      · simp [hp, getO]
      · simp only [hp, Bool.false_eq_true, if_false]
        rw [getO_filter p o k0, if_neg hp]
    · by_cases hp : p k0 = true
      · simp only [hp, if_true, getO, if_neg h]
        exact getO_filter p o k
      · simp only [hp, Bool.false_eq_true, if_false, getO, if_neg h]
        exact getO_filter p o k
theorem cov_mapO {f : AV → AV} {x : Ob} {base i : Nat} (h : Cov (some x) base i) : Cov (some (mapO f x)) base i := by cases x <;> exact h
theorem imp_tail {d j : Nat} {l : List AV} {k : Key} {x : Ob} (hs : ∀ v ∈ l, (cellsOf v).length ≤ 100) (h : getO (impT d j l).2 k = some x) : k.1 = d ∧ ∃ n sz mu shr, x = .tail n sz mu shr := by
  rw [getO_impT d k l j hs] at h
  split at h
  · rename_i hk
    obtain ⟨c, _, h2⟩ := Option.bind_eq_some_iff.1 h
    refine ⟨hk.1, ?_⟩
    cases c <;> simp only [ownOb, Option.some.injEq, reduceCtorEq] at h2
    exact ⟨_, _, _, _, h2.symm⟩
  · cases h
structure Ret (w0 : World) (S0 : Sb) (w : World) (o1 : List (Key × Ob)) (μ : Key → Option (Nat × Nat)) (who K : List Key) (ls : List AV) (sv : Nat → Value) (ν0 : Key → Option (Nat × Nat)) (l : List AV) (ys : List Value) (w' : World) (d j : Nat) (ν : Key → Option (Nat × Nat)) (g' : Key → Option Ob) (φ : AV → AV) : Prop where
  hw : ∀ k ∈ who, ∃ cs, getO o1 k = some (.var cs false)
  kt : ∀ k ∈ K, ∃ n sz mu shr, getO o1 k = some (.tail n sz mu shr)
  lsz : ∀ r ∈ l, (cellsOf r).length ≤ 100
  dlt : d < 1000000
  n0 : ∀ (q : Nat) (k : Key), who[q]? = some k → ν0 (1000001, q) = μ k
  inj0 : ∀ k b base, ν0 k = some (b, base) → k.1 = 1000001 → ∃ k0, who[k.2]? = some k0
  agg : ∀ (q : Nat) (k : Key), who[q]? = some k → ∃ c, ls[q]? = some (AV.agg c)
  bel : Bel (lendSb w0 S0 w (getO o1) μ who K).O w w'
  same : ∀ b i, (lendSb w0 S0 w (getO o1) μ who K).O b → (lendSb w0 S0 w (getO o1) μ who K).S b i → w'.cell? ⟨b, i, none⟩ = w.cell? ⟨b, i, none⟩
  back : Back w (lendSb w0 S0 w (getO o1) μ who K) ls sv ν0 l ys w' d j ν
  gA : ∀ (q : Nat) (k : Key), who[q]? = some k → ∃ cs, l[ys.length + q]? = some (AV.agg cs) ∧ g' k = some (.var ((impL d (j + 100 * (ys.length + q)) cs).1.map (ren1 (outR who))) false) ∧ getO (impT d j l).2 k = none
  gB : ∀ k x, k ∉ who → k ∉ K → getO o1 k = some x → g' k = some (mapO φ x) ∧ getO (impT d j l).2 k = none
  gC : ∀ k x, getO (impT d j l).2 k = some x → g' k = some x
  gD : ∀ k x, g' k = some x → k ∈ who ∨ (k ∉ who ∧ k ∉ K ∧ ∃ x0, getO o1 k = some x0) ∨ (k ∉ who ∧ getO (impT d j l).2 k = some x)
def retN (μ : Key → Option (Nat × Nat)) (who K : List Key) (d j : Nat) (l : List AV) (ν : Key → Option (Nat × Nat)) : Key → Option (Nat × Nat) := fun k => if k ∈ who then μ k else if (getO (impT d j l).2 k).isSome then ν k else if k ∈ K then none else μ k
section
variable {o1 : List (Key × Ob)} {who K : List Key} {ls l : List AV} {sv : Nat → Value} {ν0 : Key → Option (Nat × Nat)} {ys : List Value} {φ : AV → AV}
theorem Ret.blk (hI : Inv G w0 S0 (⟨T, o1⟩ : St).t (getO (⟨T, o1⟩ : St).o) μ a w) (R : Ret w0 S0 w o1 μ who K ls sv ν0 l ys w' d j ν g' φ) {k : Key} {b base : Nat} (h : μ k = some (b, base)) (h1 : k ∉ who) (h2 : k ∉ K) : ¬ (lendSb w0 S0 w (getO o1) μ who K).O b := by
  rintro ⟨k', hk, i, hμ⟩
  obtain rfl := hI.inj _ _ _ _ _ h hμ
  exact hk.elim h1 h2
theorem Ret.heap (hI : Inv G w0 S0 (⟨T, o1⟩ : St).t (getO (⟨T, o1⟩ : St).o) μ a w) (R : Ret w0 S0 w o1 μ who K ls sv ν0 l ys w' d j ν g' φ) {b : Nat} (hb : b < w.heap.size) (h : ¬ (lendSb w0 S0 w (getO o1) μ who K).O b) : w'.heap[b]? = w.heap[b]? := R.bel.block b hb h
theorem Ret.n_who (hI : Inv G w0 S0 (⟨T, o1⟩ : St).t (getO (⟨T, o1⟩ : St).o) μ a w) (R : Ret w0 S0 w o1 μ who K ls sv ν0 l ys w' d j ν g' φ) {k : Key} (h : k ∈ who) : retN μ who K d j l ν k = μ k := by unfold retN; rw [if_pos h]
theorem Ret.n_old (hI : Inv G w0 S0 (⟨T, o1⟩ : St).t (getO (⟨T, o1⟩ : St).o) μ a w) (R : Ret w0 S0 w o1 μ who K ls sv ν0 l ys w' d j ν g' φ) {k : Key} {x : Ob} (h1 : k ∉ who) (h2 : k ∉ K) (hx : getO o1 k = some x) : retN μ who K d j l ν k = μ k := by
  unfold retN
  rw [if_neg h1, (R.gB k x h1 h2 hx).2, if_neg (by simp), if_neg h2]
theorem Ret.n_new (hI : Inv G w0 S0 (⟨T, o1⟩ : St).t (getO (⟨T, o1⟩ : St).o) μ a w) (R : Ret w0 S0 w o1 μ who K ls sv ν0 l ys w' d j ν g' φ) {k : Key} {x : Ob} (h : getO (impT d j l).2 k = some x) : retN μ who K d j l ν k = ν k := by
  unfold retN
  have hn : k ∉ who := by
    intro hk
    obtain ⟨q, hq, rfl⟩ := List.mem_iff_getElem.1 hk
    obtain ⟨_, _, _, h2⟩ := R.gA q _ (List.getElem?_eq_getElem hq)
    rw [h2] at h
    cases h
  rw [if_neg hn, h]
  rfl
theorem Ret.n_inv (hI : Inv G w0 S0 (⟨T, o1⟩ : St).t (getO (⟨T, o1⟩ : St).o) μ a w) (R : Ret w0 S0 w o1 μ who K ls sv ν0 l ys w' d j ν g' φ) {k : Key} {b base : Nat} (h : retN μ who K d j l ν k = some (b, base)) : (k ∈ who ∧ μ k = some (b, base)) ∨ (k ∉ who ∧ (∃ x, getO (impT d j l).2 k = some x) ∧ ν k = some (b, base) ∧ (w.heap.size ≤ b ∨ ((lendSb w0 S0 w (getO o1) μ who K).O b ∧ ¬ Roots ν0 b)) ∧ b < w'.heap.size) ∨ (k ∉ who ∧ k ∉ K ∧ (∃ x, getO o1 k = some x) ∧ μ k = some (b, base)) := by
  unfold retN at h
  split at h
  · rename_i hk; exact .inl ⟨hk, h⟩
  · rename_i hk
    split at h
    · rename_i hs
      obtain ⟨x, hx⟩ := Option.isSome_iff_exists.1 hs
      obtain ⟨_, h2, h3⟩ := R.back.pl k b base h
      refine .inr (.inl ⟨hk, ⟨x, hx⟩, h, ?_, h2⟩)
      have hkd := (imp_tail R.lsz hx).1
      rcases h3 with ⟨h3, _⟩ | ⟨_, h3⟩
      · have := R.dlt; omega
      · exact h3
    · split at h
      · cases h
      · rename_i h2
        obtain ⟨x, hx⟩ := Option.isSome_iff_exists.1 (hI.pl k b base h).1
        exact .inr (.inr ⟨hk, h2, ⟨x, hx⟩, h⟩)
theorem Ret.root_of (hI : Inv G w0 S0 (⟨T, o1⟩ : St).t (getO (⟨T, o1⟩ : St).o) μ a w) (R : Ret w0 S0 w o1 μ who K ls sv ν0 l ys w' d j ν g' φ) {k : Key} {b base : Nat} (hk : k ∈ who) (h : μ k = some (b, base)) : Roots ν0 b := by
  obtain ⟨q, hq, rfl⟩ := List.mem_iff_getElem.1 hk
  exact ⟨(1000001, q), base, rfl, (R.n0 q _ (List.getElem?_eq_getElem hq)).trans h⟩
theorem Ret.bk_new (hI : Inv G w0 S0 (⟨T, o1⟩ : St).t (getO (⟨T, o1⟩ : St).o) μ a w) (R : Ret w0 S0 w o1 μ who K ls sv ν0 l ys w' d j ν g' φ) {k : Key} {x : Ob} (h : getO (impT d j l).2 k = some x) : getO (lendBk d j ys.length l) k = some x := by
  unfold lendBk
  rw [getO_append]
  have hk := (imp_tail R.lsz h).1
  cases hg : getO (lendV 0 ((impT d j l).1.drop ys.length)) k with
  | none => simpa using h
  | some y => have := (lendV_key (k := k) (L := (impT d j l).1.drop ys.length) (by rw [hg]; rfl)).1; have := R.dlt; omega
theorem Ret.bk_inv (hI : Inv G w0 S0 (⟨T, o1⟩ : St).t (getO (⟨T, o1⟩ : St).o) μ a w) (R : Ret w0 S0 w o1 μ who K ls sv ν0 l ys w' d j ν g' φ) {k : Key} {x : Ob} (h : getO (lendBk d j ys.length l) k = some x) : (k.1 = 1000001 ∧ ∃ cs, x = .var cs false) ∨ getO (impT d j l).2 k = some x := by
  unfold lendBk at h
  rw [getO_append] at h
  cases hg : getO (lendV 0 ((impT d j l).1.drop ys.length)) k with
  | none => rw [hg, Option.none_or] at h; exact .inr h
  | some y =>
    rw [hg, Option.some_or, Option.some.injEq] at h
    subst h
    obtain ⟨h1, cs, _, h3⟩ := lendV_key (k := k) (L := (impT d j l).1.drop ys.length) (by rw [hg]; rfl)
    rw [hg] at h3
    exact .inl ⟨h1, cs, Option.some.inj h3⟩
theorem Ret.mine (hI : Inv G w0 S0 (⟨T, o1⟩ : St).t (getO (⟨T, o1⟩ : St).o) μ a w) (R : Ret w0 S0 w o1 μ who K ls sv ν0 l ys w' d j ν g' φ) {b : Nat} (h : (lendSb w0 S0 w (getO o1) μ who K).O b) : Mine w0 S0 b := by
  obtain ⟨k, _, i, hμ⟩ := h
  exact (hI.pl k b i hμ).2.1
theorem Ret.st (hI : Inv G w0 S0 (⟨T, o1⟩ : St).t (getO (⟨T, o1⟩ : St).o) μ a w) (R : Ret w0 S0 w o1 μ who K ls sv ν0 l ys w' d j ν g' φ) (b i : Nat) (h : Stab w0 S0 w (getO o1) μ b i) : Stab w0 S0 w' g' (retN μ who K d j l ν) b i ∧ w'.cell? ⟨b, i, none⟩ = w.cell? ⟨b, i, none⟩ := by
  have hlt := stab_lt hI b i h
  have hnr := lend_nR hI R.hw b i h
  by_cases ho : (lendSb w0 S0 w (getO o1) μ who K).O b
  · refine ⟨.inr ⟨R.mine hI ho, Nat.lt_of_lt_of_le hlt R.bel.size, fun k base hk => ?_⟩, R.same b i ho h⟩
    have hst := R.back.fz b i ho h
    rcases hst with ⟨⟨_, h1⟩, _⟩ | ⟨_, _, h3⟩
    · exact absurd ho h1
    · rcases R.n_inv hI hk with ⟨h4, h5⟩ | ⟨_, ⟨x, hx⟩, h5, _⟩ | ⟨h4, h5, _, h6⟩
      · exact absurd ⟨k, h4, base, h5⟩ hnr
      · have := h3 k base h5
        rw [R.bk_new hI hx] at this
        rw [R.gC k x hx]
        exact this
      · exact absurd ho (R.blk hI h6 h4 h5)
  · have hh := R.heap hI hlt ho
    refine ⟨?_, by unfold World.cell?; rw [hh]⟩
    rcases h with h | ⟨h1, h2, h3⟩
    · exact .inl h
    · refine .inr ⟨h1, Nat.lt_of_lt_of_le h2 R.bel.size, fun k base hk => ?_⟩
      rcases R.n_inv hI hk with ⟨h4, h5⟩ | ⟨_, _, _, h5, _⟩ | ⟨h4, h5, ⟨x, hx⟩, h6⟩
      · exact absurd ⟨k, .inl h4, base, h5⟩ ho
      · rcases h5 with h5 | h5
        · omega
        · exact absurd h5.1 ho
      · have := h3 k base h6
        rw [show getO (⟨T, o1⟩ : St).o k = some x from hx] at this
        rw [(R.gB k x h4 h5 hx).1]
        exact cov_mapO this
theorem Ret.st' (hI : Inv G w0 S0 (⟨T, o1⟩ : St).t (getO (⟨T, o1⟩ : St).o) μ a w) (R : Ret w0 S0 w o1 μ who K ls sv ν0 l ys w' d j ν g' φ) (b i : Nat) (h : Stab w (lendSb w0 S0 w (getO o1) μ who K) w' (getO (lendBk d j ys.length l)) ν b i) : Stab w0 S0 w' g' (retN μ who K d j l ν) b i := by
  rcases h with ⟨_, h⟩ | ⟨h1, h2, h3⟩
  · exact (R.st hI b i h).1
  · refine .inr ⟨h1.elim (fun h => .inl (Nat.le_trans hI.below.size h)) (R.mine hI), h2, fun k base hk => ?_⟩
    rcases R.n_inv hI hk with ⟨h4, h5⟩ | ⟨_, ⟨x, hx⟩, h5, _⟩ | ⟨h4, h5, _, h6⟩
    · exfalso
      obtain ⟨q, hq, rfl⟩ := List.mem_iff_getElem.1 h4
      have hq' := List.getElem?_eq_getElem hq
      obtain ⟨c, hc⟩ := R.agg q _ hq'
      obtain ⟨cs', e1, e2⟩ := R.back.var q c hc
      have e3 := h3 (1000001, q) base (e2.trans ((R.n0 q _ hq').trans h5))
      have e4 : getO (lendBk d j ys.length l) (1000001, q) = some (.var (impL d (j + 100 * (ys.length + q)) cs').1 false) := by
        unfold lendBk
        rw [getO_append, getO_lendV, if_pos ⟨rfl, Nat.zero_le _⟩, show ((1000001, q) : Key).2 - 0 = q from rfl, List.getElem?_drop, impT_at e1]
        rfl
      rw [e4] at e3
      cases e3
    · have := h3 k base h5
      rw [R.bk_new hI hx] at this
      rw [R.gC k x hx]
      exact this
    · exfalso
      have := (hI.pl k b base h6).2.2
      rcases h1 with h1 | h1
      · omega
      · exact R.blk hI h6 h4 h5 h1
theorem Ret.new (hI : Inv G w0 S0 (⟨T, o1⟩ : St).t (getO (⟨T, o1⟩ : St).o) μ a w) (R : Ret w0 S0 w o1 μ who K ls sv ν0 l ys w' d j ν g' φ) {c : AV} {x : Value} (h : LRep1 (mkC w (lendSb w0 S0 w (getO o1) μ who K) w' (getO (lendBk d j ys.length l)) ν) c x) : LRep1 (mkC w0 S0 w' g' (retN μ who K d j l ν)) (ren1 (outR who) c) x := by
  have F : ∀ {c : AV} {x : Value}, FRep w' (Stab w (lendSb w0 S0 w (getO o1) μ who K) w' (getO (lendBk d j ys.length l)) ν) c x → FRep w' (Stab w0 S0 w' g' (retN μ who K d j l ν)) c x := fun h => h.mono fun b i hs => ⟨R.st' hI b i hs, rfl⟩
  have tl : ∀ {k : Key} {n : Nat} {sz : Sz} {mu shr : Bool}, getO (lendBk d j ys.length l) k = some (.tail n sz mu shr) → g' k = some (.tail n sz mu shr) ∧ retN μ who K d j l ν k = ν k := by
    intro k n sz mu shr hk
    rcases R.bk_inv hI hk with ⟨_, cs, hx⟩ | hx
    · cases hx
    · exact ⟨R.gC k _ hx, R.n_new hI hx⟩
  have ow : ∀ {k : Key} {b i : Nat}, Own (mkC w (lendSb w0 S0 w (getO o1) μ who K) w' (getO (lendBk d j ys.length l)) ν) k b i → Own (mkC w0 S0 w' g' (retN μ who K d j l ν)) k b i := by
    rintro k b i ⟨base, len, sz, mu, shr, h1, h2, h3⟩
    obtain ⟨h4, h5⟩ := tl h2
    exact ⟨base, len, sz, mu, shr, h5.trans h1, h4, h3⟩
  cases c with
  | undef => trivial
  | nilsl => exact h
  | asl k es =>
    obtain ⟨len, sz, mu, shr, h1, h2, h3, h4, h5⟩ := h
    obtain ⟨h6, h7⟩ := tl h1
    refine ⟨len, sz, mu, shr, h6, h2, h3, h4, ?_⟩
    rcases h5 with ⟨h5, h8, h9⟩ | ⟨b, o, cap, X, h5, hk, h8, h9⟩
    · exact .inl ⟨h5, h8, fun h => h7.trans (h9 h)⟩
    · refine .inr ⟨b, o, cap, X, h5, hk, fun h => ⟨h7.trans (h8 h).1, (h8 h).2⟩, fun i e j c he hc => ?_⟩
      obtain ⟨a1, a2, a3, a4⟩ := h9 i e j c he hc
      exact ⟨a1.imp (R.st' hI _ _) ow, a2, a3, F a4⟩
  | ptr k off =>
    obtain ⟨b, cs, s, h1, h2, h3⟩ := h
    rcases R.bk_inv hI h1 with ⟨hk1, _⟩ | hx
    · obtain ⟨_, _, h4⟩ := R.back.pl k b 0 h2
      rcases h4 with ⟨_, h4⟩ | ⟨h4, _⟩
      · obtain ⟨k0, hk0⟩ := R.inj0 k b 0 h4 hk1
        obtain ⟨k1, k2⟩ := k
        subst hk1
        have hk0 : who[k2]? = some k0 := hk0
        obtain ⟨cs', _, e2, _⟩ := R.gA k2 k0 hk0
        have hμ : μ k0 = some (b, 0) := (R.n0 k2 k0 hk0).symm.trans h4
        have e : outR who (1000001, k2) = k0 := by
          unfold outR
          rw [if_pos rfl]
          show who.getD k2 _ = k0
          rw [List.getD_eq_getElem?_getD, hk0]
          rfl
        show LRep1 _ (.ptr (outR who (1000001, k2)) off) x
        rw [e]
        exact ⟨b, _, _, e2, (R.n_who hI (List.mem_of_getElem? hk0)).trans hμ, h3⟩
      · have := R.dlt; omega
    · obtain ⟨_, _, _, _, _, hx⟩ := imp_tail R.lsz hx
      cases hx
  | eptr k i o cs =>
    obtain ⟨b, q, len, sz, mu, shr, X, h1, h2, h3, h4⟩ := h
    obtain ⟨h6, h7⟩ := tl h1
    refine ⟨b, q, len, sz, mu, shr, X, h6, h2, fun h => ?_, fun j c hc => ?_⟩
    · obtain ⟨base, e1, e2⟩ := h3 h
      exact ⟨base, h7.trans e1, e2⟩
    · obtain ⟨a1, a2, a3, a4⟩ := h4 j c hc
      exact ⟨a1.imp (R.st' hI _ _) ow, a2, a3, F a4⟩
  | bnil T => exact h
  | sub k l n =>
    obtain ⟨b, o, cap, len, sz, mu, shr, h0, h1, h3⟩ := h
    obtain ⟨h6, h7⟩ := tl h1
    refine ⟨b, o, cap, len, sz, mu, shr, h0, h6, fun h => ?_⟩
    obtain ⟨base, e1, e2⟩ := h3 h
    exact ⟨base, h7.trans e1, e2⟩
  | mp k => exact h
  | it k => exact h
  | agg cs => exact h
  | tup cs => exact h
  | own sz m es => exact h
  | v y => exact F h
  | fsl es => exact F h
  | fptr cs => exact F h
  | fn f cs => exact F h
  | iface t y => exact F h
theorem Ret.newA (hI : Inv G w0 S0 (⟨T, o1⟩ : St).t (getO (⟨T, o1⟩ : St).o) μ a w) (R : Ret w0 S0 w o1 μ who K ls sv ν0 l ys w' d j ν g' φ) {c : AV} {x : Value} (h : LRepA (mkC w (lendSb w0 S0 w (getO o1) μ who K) w' (getO (lendBk d j ys.length l)) ν) c x) : LRepA (mkC w0 S0 w' g' (retN μ who K d j l ν)) (mapA (ren1 (outR who)) c) x := by
  cases c with
  | agg cs =>
    obtain ⟨vs, h1, h2, h3⟩ := h
    refine ⟨vs, h1, by rw [h2, List.length_map], fun j c x hc hx => ?_⟩
    rw [List.getElem?_map, Option.map_eq_some_iff] at hc
    obtain ⟨c0, hc0, rfl⟩ := hc
    exact ⟨R.new hI (h3 j c0 x hc0 hx).1, (h3 j c0 x hc0 hx).2⟩
  | _ => simp only [LRepA, mapA] at h ⊢; exact R.new hI h
theorem capfree {C : Ctx} {c : AV} {b o n cap cap' : Nat} (h : LRep1 C c (.slice (some ⟨b, o, none⟩) n cap)) (hn : n ≤ cap') (hsub : isSub c = false)
    (hs : ∀ k es len sz mu shr, c = .asl k es → C.g k = some (.tail len sz mu shr) → ∃ xs T, C.w.heap[b]? = some (.cells xs T (0, 0)) ∧ o + cap' * sz ≤ xs.size) : LRep1 C c (.slice (some ⟨b, o, none⟩) n cap') := by
  cases c with
  | undef => trivial
  | nilsl => cases h
  | asl k es =>
    obtain ⟨len, sz, mu, shr, h1, h2, h3, h4, h5⟩ := h
    refine ⟨len, sz, mu, shr, h1, h2, h3, h4, ?_⟩
    rcases h5 with ⟨h5, _⟩ | ⟨b', o', cp, X, h5, hk, h8, h9⟩
    · cases h5
    · cases h5
      exact .inr ⟨b, o, cap', X, rfl, hn, fun h => ⟨(h8 h).1, hs k es len sz mu shr rfl h1⟩, h9⟩
  | ptr k o => obtain ⟨_, _, _, _, _, h⟩ := h; cases h
  | eptr k i o cs => obtain ⟨_, _, _, _, _, _, _, _, h, _⟩ := h; cases h
  | sub k l n => cases hsub
  | bnil T => cases h
  | mp k => exact h
  | it k => exact h
  | agg cs => exact h
  | tup cs => exact h
  | own sz m es => exact h
  | v y => cases h with | v h => cases h
  | fsl es =>
    cases h with
    | emp => exact .emp
    | sl X hk hl hc hr => exact .sl X hn hl hc hr
  | fptr cs => cases h
  | fn f cs => cases h
  | iface t y => cases h
theorem Ret.old (hI : Inv G w0 S0 (⟨T, o1⟩ : St).t (getO (⟨T, o1⟩ : St).o) μ a w) (R : Ret w0 S0 w o1 μ who K ls sv ν0 l ys w' d j ν g' φ) {c : AV} {x : Value} (hφ : ∀ (k : Key) (es : List (List AV)) (x : Value), k ∈ K → LRep1 (mkC w0 S0 w (getO o1) μ) (.asl k es) x → LRep1 (mkC w0 S0 w' g' (retN μ who K d j l ν)) (φ (.asl k es)) x)
    (hφ1 : ∀ c, (∀ k es, k ∈ K → c ≠ .asl k es) → (∀ k i o cs, k ∈ K → c ≠ .eptr k i o cs) → (∀ k l n, k ∈ K → c ≠ .sub k l n) → φ c = c) (hφ2 : ∀ k i o cs, k ∈ K → φ (.eptr k i o cs) = .undef) (hφ3 : ∀ k l n, k ∈ K → φ (.sub k l n) = .undef) (h : LRep1 (mkC w0 S0 w (getO o1) μ) c x) : LRep1 (mkC w0 S0 w' g' (retN μ who K d j l ν)) (φ c) x := by
  have F : ∀ {c : AV} {x : Value}, FRep w (Stab w0 S0 w (getO o1) μ) c x → FRep w' (Stab w0 S0 w' g' (retN μ who K d j l ν)) c x := fun h => h.mono fun b i hs => R.st hI b i hs
  have nw : ∀ {k : Key} {n : Nat} {sz : Sz} {mu shr : Bool}, getO o1 k = some (.tail n sz mu shr) → k ∉ who := by
    intro k n sz mu shr hk hw
    obtain ⟨cs, hc⟩ := R.hw k hw
    rw [hk] at hc
    cases hc
  have tl : ∀ {k : Key} {n : Nat} {sz : Sz} {mu shr : Bool}, k ∉ K → getO o1 k = some (.tail n sz mu shr) → g' k = some (.tail n sz mu shr) ∧ retN μ who K d j l ν k = μ k := fun h1 h2 => ⟨(R.gB _ _ (nw h2) h1 h2).1, R.n_old hI (nw h2) h1 h2⟩
  have ow : ∀ {k : Key} {b i : Nat}, k ∉ K → Own (mkC w0 S0 w (getO o1) μ) k b i → Own (mkC w0 S0 w' g' (retN μ who K d j l ν)) k b i ∧ w'.cell? ⟨b, i, none⟩ = w.cell? ⟨b, i, none⟩ := by
    rintro k b i hk ⟨base, len, sz, mu, shr, h1, h2, h3⟩
    obtain ⟨h4, h5⟩ := tl hk h2
    refine ⟨⟨base, len, sz, mu, shr, h5.trans h1, h4, h3⟩, ?_⟩
    unfold World.cell?
    rw [R.heap hI (hI.pl k b base h1).2.2 (R.blk hI h1 (nw h2) hk)]
  have sc : ∀ {b i k c x}, k ∉ K → (Stab w0 S0 w (getO o1) μ b i ∨ Own (mkC w0 S0 w (getO o1) μ) k b i) ∧ w.cell? ⟨b, i, none⟩ = some x ∧ atom c = true ∧ FRep w (Stab w0 S0 w (getO o1) μ) c x →
      (Stab w0 S0 w' g' (retN μ who K d j l ν) b i ∨ Own (mkC w0 S0 w' g' (retN μ who K d j l ν)) k b i) ∧ w'.cell? ⟨b, i, none⟩ = some x ∧ atom c = true ∧ FRep w' (Stab w0 S0 w' g' (retN μ who K d j l ν)) c x := by
    rintro b i k c x hk ⟨h1, h2, h3, h4⟩
    refine ⟨?_, ?_, h3, F h4⟩
    · rcases h1 with h1 | h1
      · exact .inl (R.st hI _ _ h1).1
      · exact .inr (ow hk h1).1
    · rcases h1 with h1 | h1
      · rw [(R.st hI _ _ h1).2]; exact h2
      · rw [(ow hk h1).2]; exact h2
  cases c with
  | undef => rw [hφ1 _ (fun _ _ _ h => by cases h) (fun _ _ _ _ _ h => by cases h) (fun _ _ _ _ h => by cases h)]; trivial
  | nilsl => rw [hφ1 _ (fun _ _ _ h => by cases h) (fun _ _ _ _ _ h => by cases h) (fun _ _ _ _ h => by cases h)]; exact h
  | bnil T => rw [hφ1 _ (fun _ _ _ h => by cases h) (fun _ _ _ _ _ h => by cases h) (fun _ _ _ _ h => by cases h)]; exact h
  | asl k es =>
    by_cases hk : k ∈ K
    · exact hφ k es x hk h
    · rw [hφ1 _ (fun k' es' hk' h => by cases h; exact hk hk') (fun _ _ _ _ _ h => by cases h) (fun _ _ _ _ h => by cases h)]
      obtain ⟨len, sz, mu, shr, h1, h2, h3, h4, h5⟩ := h
      obtain ⟨h6, h7⟩ := tl hk h1
      refine ⟨len, sz, mu, shr, h6, h2, h3, h4, ?_⟩
      rcases h5 with ⟨h5, h8, h9⟩ | ⟨b, o, cap, X, h5, hkc, h8, h9⟩
      · exact .inl ⟨h5, h8, fun h => h7.trans (h9 h)⟩
      · refine .inr ⟨b, o, cap, X, h5, hkc, fun h => ?_, fun i e j c he hc => sc hk (h9 i e j c he hc)⟩
        obtain ⟨h10, xs, T, h11, h12⟩ := h8 h
        exact ⟨h7.trans h10, xs, T, (R.heap hI (hI.pl k b o h10).2.2 (R.blk hI h10 (nw h1) hk)).trans h11, h12⟩
  | ptr k o =>
    rw [hφ1 _ (fun _ _ _ h => by cases h) (fun _ _ _ _ _ h => by cases h) (fun _ _ _ _ h => by cases h)]
    obtain ⟨b, cs, s, h1, h2, h3⟩ := h
    have h1 : getO o1 k = some (.var cs s) := h1
    by_cases hw : k ∈ who
    · obtain ⟨q, hq, rfl⟩ := List.mem_iff_getElem.1 hw
      obtain ⟨_, _, e2, _⟩ := R.gA q _ (List.getElem?_eq_getElem hq)
      exact ⟨b, _, _, e2, (R.n_who hI hw).trans h2, h3⟩
    · have hK : k ∉ K := by
        intro hk
        obtain ⟨_, _, _, _, h4⟩ := R.kt k hk
        rw [h1] at h4
        cases h4
      exact ⟨b, _, _, (R.gB k _ hw hK h1).1, (R.n_old hI hw hK h1).trans h2, h3⟩
  | eptr k i o cs =>
    by_cases hk : k ∈ K
    · rw [hφ2 k i o cs hk]; trivial
    · rw [hφ1 _ (fun _ _ _ h => by cases h) (fun k' _ _ _ hk' h => by cases h; exact hk hk') (fun _ _ _ _ h => by cases h)]
      obtain ⟨b, q, len, sz, mu, shr, X, h1, h2, h3, h4⟩ := h
      obtain ⟨h6, h7⟩ := tl hk h1
      refine ⟨b, q, len, sz, mu, shr, X, h6, h2, fun h => ?_, fun j c hc => sc hk (h4 j c hc)⟩
      obtain ⟨base, e1, e2⟩ := h3 h
      exact ⟨base, h7.trans e1, e2⟩
  | sub k l n =>
    by_cases hk : k ∈ K
    · rw [hφ3 k l n hk]; trivial
    · rw [hφ1 _ (fun _ _ _ h => by cases h) (fun _ _ _ _ _ h => by cases h) (fun k' _ _ hk' h => by cases h; exact hk hk')]
      obtain ⟨b, o, cap, len, sz, mu, shr, h0, h1, h3⟩ := h
      obtain ⟨h6, h7⟩ := tl hk h1
      refine ⟨b, o, cap, len, sz, mu, shr, h0, h6, fun h => ?_⟩
      obtain ⟨base, e1, e2⟩ := h3 h
      exact ⟨base, h7.trans e1, e2⟩
  | mp k => exact h.elim
  | it k => exact h.elim
  | agg cs => exact h.elim
  | tup cs => exact h.elim
  | own sz m es => exact h.elim
  | v y => rw [hφ1 _ (fun _ _ _ h => by cases h) (fun _ _ _ _ _ h => by cases h) (fun _ _ _ _ h => by cases h)]; exact F h
  | fsl es => rw [hφ1 _ (fun _ _ _ h => by cases h) (fun _ _ _ _ _ h => by cases h) (fun _ _ _ _ h => by cases h)]; exact F h
  | fptr cs => rw [hφ1 _ (fun _ _ _ h => by cases h) (fun _ _ _ _ _ h => by cases h) (fun _ _ _ _ h => by cases h)]; exact F h
  | fn f cs => rw [hφ1 _ (fun _ _ _ h => by cases h) (fun _ _ _ _ _ h => by cases h) (fun _ _ _ _ h => by cases h)]; exact F h
  | iface t y => rw [hφ1 _ (fun _ _ _ h => by cases h) (fun _ _ _ _ _ h => by cases h) (fun _ _ _ _ h => by cases h)]; exact F h
end
end
end Go.Proofs.YtmhdapjmndfkgaaGreatDoor.Eng
namespace Go.Proofs.YtmhdapjmndfkgaaGreatDoor.Eng
open Go Go.RowKit
set_option linter.unusedSectionVars false
section
variable {P : Program} {G : Nat → AV} {w0 w w' : World} {S0 : Sb} {T : List AV} {g g' : Key → Option Ob} {μ μ' ν : Key → Option (Nat × Nat)} {a : Act} {σ σ' : St} {d j : Nat} {call : Call} {ow : Nat → Bool} {o : Oper} {op : COp}
theorem LRepA.one {C : Ctx} {c : AV} {x : Value} (ha : atom c = true) (h : LRepA C c x) : LRep1 C c x := by
  cases c <;> first | exact h | cases ha
section
variable {o1 : List (Key × Ob)} {who K : List Key} {ls l : List AV} {sv : Nat → Value} {ν0 : Key → Option (Nat × Nat)} {ys : List Value} {φ : AV → AV}
theorem Ret.oldA (hI : Inv G w0 S0 (⟨T, o1⟩ : St).t (getO (⟨T, o1⟩ : St).o) μ a w) (R : Ret w0 S0 w o1 μ who K ls sv ν0 l ys w' d j ν g' φ) (hφ : ∀ (c : AV) (x : Value), LRep1 (mkC w0 S0 w (getO o1) μ) c x → LRep1 (mkC w0 S0 w' g' (retN μ who K d j l ν)) (φ c) x) {c : AV} {x : Value} (h : LRepA (mkC w0 S0 w (getO o1) μ) c x) : LRepA (mkC w0 S0 w' g' (retN μ who K d j l ν)) (mapA φ c) x := by
  cases c with
  | agg cs =>
    obtain ⟨vs, h1, h2, h3⟩ := h
    refine ⟨vs, h1, by rw [h2, List.length_map], fun j c x hc hx => ?_⟩
    rw [List.getElem?_map, Option.map_eq_some_iff] at hc
    obtain ⟨c0, hc0, rfl⟩ := hc
    exact ⟨hφ _ _ (h3 j c0 x hc0 hx).1, (h3 j c0 x hc0 hx).2⟩
  | _ => simp only [LRepA, mapA] at h ⊢; exact (LRepA.of1 (hφ _ _ h).atom (hφ _ _ h))
theorem Ret.oldT (hI : Inv G w0 S0 (⟨T, o1⟩ : St).t (getO (⟨T, o1⟩ : St).o) μ a w) (R : Ret w0 S0 w o1 μ who K ls sv ν0 l ys w' d j ν g' φ) (hφ : ∀ (c : AV) (x : Value), LRep1 (mkC w0 S0 w (getO o1) μ) c x → LRep1 (mkC w0 S0 w' g' (retN μ who K d j l ν)) (φ c) x) {c : AV} {x : Value} (h : LRep (mkC w0 S0 w (getO o1) μ) c x) : LRep (mkC w0 S0 w' g' (retN μ who K d j l ν)) (mapT φ c) x := by
  cases c with
  | tup cs =>
    obtain ⟨vs, h1, h2, h3⟩ := h
    refine ⟨vs, h1, by rw [h2, List.length_map], fun j c x hc hx => ?_⟩
    rw [List.getElem?_map, Option.map_eq_some_iff] at hc
    obtain ⟨c0, hc0, rfl⟩ := hc
    exact R.oldA hI hφ (h3 j c0 x hc0 hx)
  | _ => simp only [LRep, mapT] at h ⊢; exact (R.oldA hI hφ h).lr
theorem Ret.inv (hI : Inv G w0 S0 (⟨T, o1⟩ : St).t (getO (⟨T, o1⟩ : St).o) μ a w) (R : Ret w0 S0 w o1 μ who K ls sv ν0 l ys w' d j ν g' φ) (hφ : ∀ (c : AV) (x : Value), LRep1 (mkC w0 S0 w (getO o1) μ) c x → LRep1 (mkC w0 S0 w' g' (retN μ who K d j l ν)) (φ c) x) (hφt : ∀ c T, φ c = .bnil T → c = .bnil T) : Inv G w0 S0 (T.map (mapT φ)) g' (retN μ who K d j l ν) a w' := by
  have nK : ∀ {k : Key} {cs : List AV} {s : Bool}, getO o1 k = some (.var cs s) → k ∉ K := by
    intro k cs s hk hK
    obtain ⟨_, _, _, _, h⟩ := R.kt k hK
    rw [hk] at h
    cases h
  refine ⟨⟨R.bel.os.trans hI.below.os, R.bel.tape.trans hI.below.tape, R.bel.output.trans hI.below.output, Nat.le_trans hI.below.size R.bel.size, fun k hk ho => ?_⟩, by rw [List.length_map]; exact hI.len, fun i c hc => ?_, fun k x hx => ?_, fun k b base h => ?_, fun k k' b i i' h h' => ?_, hI.df, hI.laid, hI.unlent, fun b i ho hs => ?_, fun k b h => ?_, fun n => (hI.gl n).imp id fun h => h.mono fun b i hs => R.st hI b i hs⟩
  · have hn : ¬ (lendSb w0 S0 w (getO o1) μ who K).O k := fun h => (R.mine hI h).elim (fun h => by omega) ho
    exact (R.heap hI (Nat.lt_of_lt_of_le hk hI.below.size) hn).trans (hI.below.block k hk ho)
  · rw [List.getElem?_map, Option.map_eq_some_iff] at hc
    obtain ⟨c0, hc0, rfl⟩ := hc
    obtain ⟨x, h1, h2⟩ := hI.tmp i c0 hc0
    exact ⟨x, h1, R.oldT hI hφ h2⟩
  · rcases R.gD k x hx with hk | ⟨h1, h2, x0, h3⟩ | ⟨h1, h2⟩
    · obtain ⟨q, hq, rfl⟩ := List.mem_iff_getElem.1 hk
      have hq' := List.getElem?_eq_getElem hq
      obtain ⟨cs, e1, e2, _⟩ := R.gA q _ hq'
      rw [hx] at e2
      cases e2
      obtain ⟨c, hc⟩ := R.agg q _ hq'
      obtain ⟨cs', f1, f2⟩ := R.back.var q c hc
      rw [e1] at f1
      cases f1
      have hb : getO (lendBk d j ys.length l) (1000001, q) = some (.var (impL d (j + 100 * (ys.length + q)) cs).1 false) := by
        unfold lendBk
        rw [getO_append, getO_lendV, if_pos ⟨rfl, Nat.zero_le _⟩, show ((1000001, q) : Key).2 - 0 = q from rfl, List.getElem?_drop, impT_at e1]
        rfl
      obtain ⟨b, xs, ty, g1, g2, g3, g4⟩ := R.back.ob _ _ hb
      have g1 : ν (1000001, q) = some (b, 0) := g1
      refine ⟨b, xs, ty, (R.n_who hI hk).trans ((R.n0 q _ hq').symm.trans (f2.symm.trans g1)), g2, by rw [List.length_map]; exact g3, fun i c x hc hx => ?_, g4.2.map fun _ _ h => ren1_tag h⟩
      rw [List.getElem?_map, Option.map_eq_some_iff] at hc
      obtain ⟨c0, hc0, rfl⟩ := hc
      exact ⟨R.new hI (g4.1 i c0 x hc0 hx).1, (g4.1 i c0 x hc0 hx).2⟩
    · have hg := (R.gB k x0 h1 h2 h3).1
      rw [hx] at hg
      cases hg
      have hN := R.n_old hI h1 h2 h3
      cases x0 with
      | var cs s =>
        obtain ⟨b, xs, ty, e1, e2, e3, e4⟩ := hI.ob k _ h3
        refine ⟨b, xs, ty, hN.trans e1, (R.heap hI (hI.pl k b 0 e1).2.2 (R.blk hI e1 h1 h2)).trans e2, by rw [List.length_map]; exact e3, fun i c x hc hx => ?_, e4.2.map hφt⟩
        rw [List.getElem?_map, Option.map_eq_some_iff] at hc
        obtain ⟨c0, hc0, rfl⟩ := hc
        exact ⟨hφ _ _ (e4.1 i c0 x hc0 hx).1, (e4.1 i c0 x hc0 hx).2⟩
      | tail n sz mu shr =>
        obtain ⟨e0, e⟩ := hI.ob k _ h3
        refine ⟨e0, ?_⟩
        rcases e with ⟨e1, e2⟩ | ⟨b, base, xs, ty, e1, e2, e3⟩
        · exact .inl ⟨hN.trans e1, e2⟩
        · exact .inr ⟨b, base, xs, ty, hN.trans e1, (R.heap hI (hI.pl k b base e1).2.2 (R.blk hI e1 h1 h2)).trans e2, e3⟩
      | map es => exact (hI.ob k _ h3).elim
      | siter s p => exact (hI.ob k _ h3).elim
    · have hN := R.n_new hI h2
      have hob := R.back.ob k x (R.bk_new hI h2)
      obtain ⟨_, n, sz, mu, shr, rfl⟩ := imp_tail R.lsz h2
      obtain ⟨e0, e⟩ := hob
      refine ⟨e0, ?_⟩
      rcases e with ⟨e1, e2⟩ | ⟨b, base, xs, ty, e1, e2, e3⟩
      · exact .inl ⟨hN.trans e1, e2⟩
      · exact .inr ⟨b, base, xs, ty, hN.trans e1, e2, e3⟩
  · rcases R.n_inv hI h with ⟨h4, h5⟩ | ⟨h4, ⟨x, hx⟩, h5, h6, h7⟩ | ⟨h4, h5, ⟨x, hx⟩, h6⟩
    · obtain ⟨q, hq, rfl⟩ := List.mem_iff_getElem.1 h4
      obtain ⟨_, _, e2, _⟩ := R.gA q _ (List.getElem?_eq_getElem hq)
      obtain ⟨_, e3, e4⟩ := hI.pl _ b base h5
      exact ⟨by rw [e2]; rfl, e3, Nat.lt_of_lt_of_le e4 R.bel.size⟩
    · refine ⟨by rw [R.gC k x hx]; rfl, ?_, h7⟩
      rcases h6 with h6 | h6
      · exact .inl (Nat.le_trans hI.below.size h6)
      · exact R.mine hI h6.1
    · obtain ⟨_, e3, e4⟩ := hI.pl _ b base h6
      exact ⟨by rw [(R.gB k x h4 h5 hx).1]; rfl, e3, Nat.lt_of_lt_of_le e4 R.bel.size⟩
  · have wn : ∀ {k k' : Key} {b i i' : Nat}, k ∈ who → μ k = some (b, i) → (w.heap.size ≤ b ∨ ((lendSb w0 S0 w (getO o1) μ who K).O b ∧ ¬ Roots ν0 b)) → False := by
      intro k k' b i i' hk hμ h
      rcases h with h | h
      · have := (hI.pl k b i hμ).2.2; omega
      · exact h.2 (R.root_of hI hk hμ)
    have on : ∀ {k : Key} {b i : Nat}, k ∉ who → k ∉ K → μ k = some (b, i) → (w.heap.size ≤ b ∨ ((lendSb w0 S0 w (getO o1) μ who K).O b ∧ ¬ Roots ν0 b)) → False := by
      intro k b i h1 h2 hμ h
      rcases h with h | h
      · have := (hI.pl k b i hμ).2.2; omega
      · exact R.blk hI hμ h1 h2 h.1
    rcases R.n_inv hI h with ⟨h4, h5⟩ | ⟨h4, hx, h5, h6, h7⟩ | ⟨h4, h5, hx, h6⟩ <;> rcases R.n_inv hI h' with ⟨h4', h5'⟩ | ⟨h4', hx', h5', h6', h7'⟩ | ⟨h4', h5', hx', h6'⟩
    · exact hI.inj _ _ _ _ _ h5 h5'
    · exact (wn (k' := k) (i' := 0) h4 h5 h6').elim
    · exact hI.inj _ _ _ _ _ h5 h6'
    · exact (wn (k' := k) (i' := 0) h4' h5' h6).elim
    · exact R.back.inj _ _ _ _ _ h5 h5'
    · exact (on h4' h5' h6' h6).elim
    · exact hI.inj _ _ _ _ _ h6 h5'
    · exact (on h4 h5 h6 h6').elim
    · exact hI.inj _ _ _ _ _ h6 h6'
  · obtain ⟨h1, h2⟩ := hI.fz b i ho hs
    obtain ⟨h3, h4⟩ := R.st hI b i h1
    exact ⟨h3, h4.trans h2⟩
  · obtain ⟨h1, ⟨cs, s, h2⟩, h3⟩ := hI.root k b h
    refine ⟨h1, ?_⟩
    by_cases hk : k ∈ who
    · obtain ⟨q, hq, rfl⟩ := List.mem_iff_getElem.1 hk
      obtain ⟨_, _, e2, _⟩ := R.gA q _ (List.getElem?_eq_getElem hq)
      exact ⟨⟨_, _, e2⟩, (R.n_who hI hk).trans h3⟩
    · exact ⟨⟨_, _, (R.gB k _ hk (nK h2) h2).1⟩, (R.n_old hI hk (nK h2) h2).trans h3⟩
end
theorem packV_rep {C : Ctx} {bs : List AV} {ys : List Value} (hl : bs.length = ys.length) (h : ∀ (m : Nat) (r : AV) (y : Value), bs[m]? = some r → ys[m]? = some y → LRepA C r y) : LRep C (match (generalizing := false) bs with | [x] => x | xs => .tup xs) (packV ys) := by
  have gen : ∀ bs : List AV, bs.length = ys.length → (∀ (m : Nat) (r : AV) (y : Value), bs[m]? = some r → ys[m]? = some y → LRepA C r y) → LRep C (.tup bs) (.tuple ys.toArray) := fun bs hl h => ⟨ys.toArray, rfl, by simp [hl], fun j c x hc hx => h j c x hc (by simpa using hx)⟩
  match bs, ys, hl, h, gen with
  | [x], [y], _, h, _ => exact (h 0 x y rfl rfl).lr
  | [], [], hl, h, gen => exact gen [] hl h
  | _ :: _ :: _, _ :: _ :: _, hl, h, gen => exact gen _ hl h
theorem L_sound (hcall : CallOkL P G call) (hI0 : Inv G w0 S0 σ.t (getO σ.o) μ a w) {c : Go.Call} {f : FuncId} {fs : List Bool} {d : Nat} (ho : o.op = .call c) (hcal : c.callee = .value (.func f)) (hdst : o.dst = some d) (hd : denL call G σ (some d) (.lend f fs (c.args.toList.map cX)) = some σ') :
    XRes P (fun y w' => ∃ μ', Inv G w0 S0 σ'.t (getO σ'.o) μ' (a.put o.dst y) w') o a w := by
  simp only [denL, Option.bind_eq_some_iff] at hd
  obtain ⟨who, hreach, cs, hcs, ls, hls, as, has, r, hr, hd⟩ := hd
  split at hd
  · rename_i l
    split at hd
    · rename_i hcond
      obtain ⟨c1, c2, c3, c4, c5, c6, c7, c8⟩ := hcond
      simp only [Option.some.injEq] at hd
      have hsz : ∀ r ∈ cs ++ lendSs σ.t G fs (c.args.toList.map cX), (cellsOf r).length ≤ 100 := fun r hr => by simpa using List.all_eq_true.1 c5 r hr
      have hok : ∀ s ∈ lendSs σ.t G fs (c.args.toList.map cX), ∃ k es, s = .asl k es ∧ ∃ sz mu shr, getO (sealO σ.o (lendKs σ.t G fs (c.args.toList.map cX))) k = some (.tail es.length sz mu shr) := by
        intro s hs
        have := List.all_eq_true.1 c2 s hs
        split at this
        · rename_i k es
          split at this
          · rename_i n sz mu shr hk
            have hn : n = es.length := by simpa using this
            exact ⟨k, es, rfl, sz, mu, shr, by rw [hk, hn]⟩
          · cases this
        · cases this
      obtain ⟨ν0, H, hn0, hagg, hagg', hlen⟩ := lend_given hI0 (xs := c.args) hcs c3 hls has hsz (fun s hs => let ⟨k, es, h, _⟩ := hok s hs; ⟨k, es, h⟩)
      obtain ⟨hent, hc⟩ := hcall f ls as _ hr
      refine .inr ⟨f, c.args.map a.eval, ?_, (hc w _ _ _ ν0 H).mono fun e w' ⟨l', ys, he, hl', hlen', hbel, hsame, hlsz, hback⟩ => ⟨packV ys, he, ?_⟩⟩
      · have h := run_callFunc (P := P) (w := w) (args := c.args.map a.eval) hent
        simp [execOp, ho, resolve, hcal, Act.eval, Deferred.ofValue, invoke, h]
      · cases hl'
        generalize hks : lendKs σ.t G fs (c.args.toList.map cX) = ks at *
        generalize hss : lendSs σ.t G fs (c.args.toList.map cX) = ss at *
        have hI : Inv G w0 S0 (⟨σ.t, sealO σ.o ks⟩ : St).t (getO (⟨σ.t, sealO σ.o ks⟩ : St).o) μ a w := hI0.sealed ks
        obtain ⟨hc1, hc2⟩ := lendCs_get hcs
        have hm : l.length - (cs ++ ss).length = ys.length := by omega
        rw [hm] at hd c6 c7 c8
        obtain ⟨ν, B⟩ := hback d (countO d (sealO σ.o ks)) c4
        generalize hK : allKeys (cs ++ ss) = K at *
        generalize hj : countO d (sealO σ.o ks) = j at *
        generalize hbk : (impT d j l).1.map (mapA (ren1 (outR who))) = bk at *
        generalize hφ : lendF K (lendSl ss (bk.drop (ys.length + who.length))) = φ at *
        have hat : ∀ (q : Nat) (b : AV), bk[q]? = some b → ∃ r, l[q]? = some r ∧ b = mapA (ren1 (outR who)) (impA d (j + 100 * q) r).1 := by
          intro q b hq
          rw [← hbk, List.getElem?_map, Option.map_eq_some_iff] at hq
          obtain ⟨b0, h1, h2⟩ := hq
          obtain ⟨r, h3, h4⟩ := impT_at' h1
          exact ⟨r, h3, by rw [← h2, h4]⟩
        have hat' : ∀ (q : Nat) (r : AV), l[q]? = some r → bk[q]? = some (mapA (ren1 (outR who)) (impA d (j + 100 * q) r).1) := by
          intro q r hq
          rw [← hbk, List.getElem?_map, impT_at hq]
          rfl
        have hbl : ∀ (q : Nat) (k : Key), who[q]? = some k → ∃ cs', l[ys.length + q]? = some (AV.agg cs') ∧ (bk.drop ys.length)[q]? = some (AV.agg ((impL d (j + 100 * (ys.length + q)) cs').1.map (ren1 (outR who)))) := by
          intro q k hq
          obtain ⟨c', h1⟩ := hagg q k hq
          obtain ⟨cs', h2, _⟩ := B.var q c' h1
          refine ⟨cs', h2, ?_⟩
          rw [List.getElem?_drop, hat' _ _ h2]
          rfl
        generalize hbase : ((sealO σ.o ks).filter fun x => !K.contains x.1).map (fun x => (x.1, mapO φ x.2)) = base at *
        have hbg : ∀ k, getO base k = if K.contains k = true then none else (getO (sealO σ.o ks) k).map (mapO φ) := by
          intro k
          rw [← hbase, getO_map, getO_filter (fun k => !K.contains k)]
          cases K.contains k <;> simp
        obtain ⟨g1, g2⟩ := lendSet_get who (bk.drop ys.length) base c3 fun q k hq => let ⟨_, _, h⟩ := hbl q k hq; ⟨_, h⟩
        generalize lendSet base who (bk.drop ys.length) = o' at *
        have hfr : ∀ k x, getO (impT d j l).2 k = some x → getO o' k = none := fun k x h => (freshO_mem c8 k x (getO_mem h)).1
        subst hd
        have hwho : ∀ k ∈ who, ∃ cs, getO (sealO σ.o ks) k = some (.var cs false) := by
          intro k hk
          obtain ⟨q, hq, rfl⟩ := List.mem_iff_getElem.1 hk
          obtain ⟨c', h1, _⟩ := hc2 q _ (List.getElem?_eq_getElem hq)
          exact ⟨c', h1⟩
        have hkt : ∀ k ∈ K, ∃ n sz mu shr, getO (sealO σ.o ks) k = some (.tail n sz mu shr) := by
          intro k hk
          rw [← hK] at hk
          unfold allKeys at hk
          obtain ⟨r, hr, hk⟩ := List.mem_flatMap.1 hk
          rw [keys_cells] at hk
          obtain ⟨x, hx, hk⟩ := List.mem_flatMap.1 hk
          cases x <;> simp only [keys1, List.not_mem_nil, List.mem_singleton] at hk
          subst hk
          rename_i es
          rcases List.mem_append.1 hr with hr | hr
          · obtain ⟨q, hq, rfl⟩ := List.mem_iff_getElem.1 hr
            have hq' : q < who.length := by omega
            obtain ⟨c', h1, h2⟩ := hc2 q _ (List.getElem?_eq_getElem hq')
            rw [List.getElem?_eq_getElem hq] at h2
            rw [Option.some.inj h2] at hx
            obtain ⟨b, xs, T, f1, f2, f3, f4⟩ := hI.ob _ _ h1
            obtain ⟨i, hi, he⟩ := List.mem_iff_getElem.1 hx
            have hi' : i < c'.length := hi
            have := (f4.1 i _ (xs[i]'(by omega)) (List.getElem?_eq_getElem hi') (Array.getElem?_eq_getElem _)).1
            rw [show c'[i] = _ from he] at this
            obtain ⟨n, sz, mu, shr, e1, _⟩ := this
            exact ⟨n, sz, mu, shr, e1⟩
          · obtain ⟨k', es', rfl, sz, mu, shr, h2⟩ := hok r hr
            simp only [cellsOf, List.mem_singleton, AV.asl.injEq] at hx
            obtain ⟨rfl, rfl⟩ := hx
            exact ⟨_, _, _, _, h2⟩
        have R : Ret w0 S0 w (sealO σ.o ks) μ who K ls (fun q => (lendVs a fs c.args.toList).getD (q - who.length) default) ν0 l ys w' d j ν (getO (o' ++ (impT d j l).2)) φ := by
          refine ⟨hwho, hkt, hlsz, c4, hn0, fun k b i hk h1 => ?_, hagg, hbel, hsame, B, fun q k hq => ?_, fun k x h1 h2 h3 => ?_, fun k x h => ?_, fun k x h => ?_⟩
          · obtain ⟨x, hx⟩ := Option.isSome_iff_exists.1 (H.pl k b i hk).1
            obtain ⟨cs', h2, _⟩ := lendIn_inv H.sz h1 hx
            exact ⟨_, List.getElem?_eq_getElem (hagg' k.2 cs' h2)⟩
          · obtain ⟨cs', h1, h2⟩ := hbl q k hq
            have h3 := g2 q k _ hq h2
            refine ⟨cs', h1, by rw [getO_append, h3]; rfl, ?_⟩
            cases hx : getO (impT d j l).2 k with
            | none => rfl
            | some x => rw [hfr k x hx] at h3; cases h3
          · have h4 : getO o' k = some (mapO φ x) := by
              rw [g1 k h1, hbg, if_neg (by rw [List.contains_iff_mem]; exact h2), h3]
              rfl
            refine ⟨by rw [getO_append, h4]; rfl, ?_⟩
            cases hx : getO (impT d j l).2 k with
            | none => rfl
            | some y => rw [hfr k y hx] at h4; cases h4
          · rw [getO_append, hfr k x h]; simpa using h
          · rw [getO_append] at h
            by_cases hk : k ∈ who
            · exact .inl hk
            · cases hx : getO o' k with
              | none => rw [hx, Option.none_or] at h; exact .inr (.inr ⟨hk, h⟩)
              | some y =>
                rw [g1 k hk, hbg] at hx
                split at hx
                · cases hx
                · rename_i hnK
                  obtain ⟨x0, h1, _⟩ := Option.map_eq_some_iff.1 hx
                  exact .inr (.inl ⟨hk, by rw [List.contains_iff_mem] at hnK; exact hnK, x0, h1⟩)
        have hφ1 : ∀ c, (∀ k es, k ∈ K → c ≠ .asl k es) → (∀ k i o cs, k ∈ K → c ≠ .eptr k i o cs) → (∀ k l n, k ∈ K → c ≠ .sub k l n) → φ c = c := by
          intro c h1 h2 h3
          subst hφ
          cases c with
          | asl k es =>
            have : ¬ K.contains k = true := by rw [List.contains_iff_mem]; exact fun h => h1 k es h rfl
            simp only [lendF]
            rw [if_neg this]
          | eptr k i o cs =>
            have : ¬ K.contains k = true := by rw [List.contains_iff_mem]; exact fun h => h2 k i o cs h rfl
            simp only [lendF]
            rw [if_neg this]
          | sub k l n =>
            have : ¬ K.contains k = true := by rw [List.contains_iff_mem]; exact fun h => h3 k l n h rfl
            simp only [lendF]
            rw [if_neg this]
          | _ => rfl
        have hφ2 : ∀ k i o cs, k ∈ K → φ (.eptr k i o cs) = .undef := by
          intro k i o cs hk
          subst hφ
          have : K.contains k = true := by rw [List.contains_iff_mem]; exact hk
          simp only [lendF]
          rw [if_pos this]
        have hφ3 : ∀ k l n, k ∈ K → φ (.sub k l n) = .undef := by
          intro k l n hk
          subst hφ
          have : K.contains k = true := by rw [List.contains_iff_mem]; exact hk
          simp only [lendF]
          rw [if_pos this]
        have hφ0 : ∀ (k : Key) (es : List (List AV)) (x : Value), k ∈ K → LRep1 (mkC w0 S0 w (getO (sealO σ.o ks)) μ) (.asl k es) x → LRep1 (mkC w0 S0 w' (getO (o' ++ (impT d j l).2)) (retN μ who K d j l ν)) (φ (.asl k es)) x := by
          intro k es x hk hx
          rw [← hφ]
          have hkc : K.contains k = true := by rw [List.contains_iff_mem]; exact hk
          simp only [lendF, hkc, if_true]
          split
          · rename_i n y hsl
            split
            · rename_i hy
              obtain ⟨hy1, hy2, _⟩ := hy
              obtain ⟨q, es0, e1, e2, e3⟩ := lendSl_inv hsl
              rw [List.getElem?_drop] at e2
              obtain ⟨r, e4, e5⟩ := hat _ _ e2
              have hq : q < ss.length := (List.getElem?_eq_some_iff.1 e1).1
              have hrs : (cs ++ ss)[who.length + q]? = some (.asl k es0) := by rw [List.getElem?_append_right (by omega), hc1, Nat.add_sub_cancel_left]; exact e1
              obtain ⟨hl1, hl2⟩ := expTR_get hls
              obtain ⟨c0, e6, e7⟩ := hl2 _ _ hrs
              have hna : isAgg1 c0 = false := by
                cases c0 with
                | agg cs' => have := hagg' _ _ e6; omega
                | _ => rfl
              obtain ⟨r', f1, f2, f3, f4⟩ := B.sl _ _ e6 hna
              rw [← Nat.add_assoc] at f1
              rw [show ys.length + who.length + q = ys.length + (who.length + q) by omega] at e4 e5
              rw [show ys.length + who.length + q = ys.length + (who.length + q) by omega, e4] at f1
              cases f1
              obtain ⟨sz, mu, shr, hk1⟩ : ∃ sz mu shr, getO (sealO σ.o ks) k = some (.tail es0.length sz mu shr) := by
                obtain ⟨k', es', h1, sz, mu, shr, h2⟩ := hok _ (List.mem_of_getElem? e1)
                cases h1
                exact ⟨sz, mu, shr, h2⟩
              obtain ⟨i, z, y', q1, q2, q3, q4, q5⟩ := (lendMk_run (a := a) c.args.toList fs who.length as has).sl q _ (by rw [hss]; exact e1)
              have hsv : (lendVs a fs c.args.toList).getD (who.length + q - who.length) default = a.eval z := by
                rw [Nat.add_sub_cancel_left, List.getD_eq_getElem?_getD, q3]; rfl
              simp only [hsv] at f3 f4
              have hz : LRep1 (mkC w0 S0 w (getO (sealO σ.o ks)) μ) (.asl k es0) (a.eval z) := by
                have := hI.ev z
                rw [show Eng.ev (⟨σ.t, sealO σ.o ks⟩ : St).t G (cX z) = _ from q2.symm] at this
                exact this
              have hy3 := LRepA.one hy2 (by rw [e5]; exact R.newA hI f3)
              obtain ⟨len, sz1, mu1, shr1, a1, a2, a3, a4, a5⟩ := hx
              obtain ⟨len2, sz2, mu2, shr2, b1, b2, b3, b4, b5⟩ := hz
              have a1 : getO (sealO σ.o ks) k = some (.tail len sz1 mu1 shr1) := a1
              have b1 : getO (sealO σ.o ks) k = some (.tail len2 sz2 mu2 shr2) := b1
              rw [hk1] at a1 b1
              cases a1
              cases b1
              rcases a5 with ⟨a5, a6, a7⟩ | ⟨b, p, cap, X, a5, a6, a7, a8⟩ <;> rcases b5 with ⟨b5, b6, b7⟩ | ⟨b', p', cap', X', b5, b6, b7, b8⟩
              · rw [a5, ← b5]; exact hy3
              · have h0 : es0.length = 0 := by rw [← e3, ← hy1, a6]; rfl
                have h1 := a7 h0
                have h2 := (b7 rfl).1
                rw [h1] at h2
                cases h2
              · have h0 : es0.length = 0 := by rw [b6]; rfl
                have h1 := b7 h0
                have h2 := (a7 (by omega)).1
                rw [h1] at h2
                cases h2
              · obtain ⟨h1, xs, T, h2, h3⟩ := a7 (by omega)
                obtain ⟨h4, _⟩ := b7 rfl
                rw [h1] at h4
                cases h4
                rw [b5] at hy3
                rw [a5]
                have hne : es.length = es0.length := by omega
                rw [hne] at a6 ⊢
                refine capfree hy3 a6 (by rcases f2 with ⟨s1, m1, es1, m2, es2, rfl, rfl⟩ | ⟨es1, rfl⟩ | rfl <;> (rw [e5]; rfl)) fun k3 es3 len3 sz3 mu3 shr3 hy4 hk3 => ?_
                obtain ⟨xs', h5, h6⟩ := f4 b p _ _ xs T _ b5 h2
                refine ⟨xs', T, h5, ?_⟩
                rw [h6]
                have hsz3 : sz3 = sz := by
                  rcases f2 with ⟨s1, m1, es1, m2, es2, rfl, rfl⟩ | ⟨es1, rfl⟩ | rfl
                  · rw [e5] at hy4
                    have hy4 : AV.asl (d, j + 100 * (ys.length + (who.length + q))) es1 = .asl k3 es3 := hy4
                    cases hy4
                    have hg : getO (impT d j l).2 (d, j + 100 * (ys.length + (who.length + q))) = some (.tail es3.length s1 m1 !m1) := by
                      rw [getO_impT d _ l j hlsz, if_pos ⟨rfl, by show j ≤ j + _; omega⟩]
                      rw [show ((d, j + 100 * (ys.length + (who.length + q))) : Key).2 - j = 100 * (ys.length + (who.length + q)) by show j + _ - j = _; omega]
                      rw [show 100 * (ys.length + (who.length + q)) / 100 = ys.length + (who.length + q) by omega, show 100 * (ys.length + (who.length + q)) % 100 = 0 by omega]
                      unfold atm
                      rw [e4]
                      rfl
                    have hk3 : getO (o' ++ (impT d j l).2) (d, j + 100 * (ys.length + (who.length + q))) = some (.tail len3 sz3 mu3 shr3) := hk3
                    rw [R.gC _ _ hg] at hk3
                    cases hk3
                    simp only [expAR, exp1R, exp1, hk1, Option.some.injEq] at e7
                    split at e7
                    · cases e7; rfl
                    · cases e7
                  · rw [e5] at hy4
                    cases hy4
                  · rw [e5] at hy4
                    cases hy4
                rw [hsz3]
                exact h3
            · trivial
          · trivial
        have hφ' := fun c x h => R.old hI (φ := φ) (c := c) (x := x) hφ0 hφ1 hφ2 hφ3 h
        have hφt : ∀ c T, φ c = .bnil T → c = .bnil T := by
          intro c T h
          subst hφ
          cases c with
          | asl k es =>
            simp only [lendF] at h
            split at h
            · split at h
              · split at h
                · rename_i hy
                  rw [h] at hy
                  exact absurd hy.2.2 (by simp [isB])
                · cases h
              · cases h
            · cases h
          | eptr k i off cs => simp only [lendF] at h; split at h <;> cases h
          | sub k l n => simp only [lendF] at h; split at h <;> cases h
          | _ => exact h
        have hres := R.inv hI hφ' hφt
        rw [hdst]
        refine ⟨retN μ who K d j l ν, ?_⟩
        show Inv G w0 S0 ((σ.t.map (mapT φ)).set d _) _ _ _ _
        refine Inv.put hres d (packV_rep ?_ ?_)
        · rw [List.length_take, ← hbk, List.length_map, (impT_get d l j 0).1]
          omega
        · intro m r y hr hy
          have hmy : m < ys.length := (List.getElem?_eq_some_iff.1 hy).1
          rw [List.getElem?_take_of_lt hmy] at hr
          obtain ⟨r0, h1, rfl⟩ := hat m r hr
          exact R.newA hI (B.res m r0 y h1 hy)
    · cases hd
  · cases hd
end
end Go.Proofs.YtmhdapjmndfkgaaGreatDoor.Eng
namespace Go.Proofs.YtmhdapjmndfkgaaGreatDoor.Eng
open Go Go.RowKit
section
variable {P : Program} {G : Nat → AV} {w0 w w' : World} {S0 : Sb} {T : List AV} {g g' : Key → Option Ob} {μ μ' ν : Key → Option (Nat × Nat)} {a : Act} {o : Oper} {r : R} {call : Call} {g0 : Key → Option Ob} {d j : Nat} {op : COp} {ow : Nat → Bool} {f : AV → AV} {σ σ' : St}
  {ops : Array Oper} {Q : Exit → Act → World → Prop} {K : Act → World → Prop} {i : Nat} {c : CO}
theorem Inv.tget (hI : Inv G w0 S0 T g μ a w) (t : Nat) : T.getD t .undef = .undef ∨ ∃ x, a.tmps[t]? = some x ∧ LRep (mkC w0 S0 w g μ) (T.getD t .undef) x := by
  cases h : T[t]? with
  | none => left; rw [List.getD_eq_getElem?_getD, h]; rfl
  | some c =>
    obtain ⟨x, h1, h2⟩ := hI.tmp t c h
    right
    refine ⟨x, h1, ?_⟩
    rw [List.getD_eq_getElem?_getD, h]
    exact h2
theorem wants_ok (hI : Inv G w0 S0 T g μ a w) {gd : Option (Nat × Bool)} {b : Bool} (hg : gslot ops o.guard = some gd) (hw : wants T gd = some b) : Region.wanted o (yielded ops a.tmps) = b := by
  unfold Region.wanted
  unfold gslot at hg
  split at hg
  · rename_i he
    cases hg
    rw [he]
    simp only [wants, Option.some.injEq] at hw
    exact hw
  · rename_i n b' he
    rw [he]
    split at hg
    · rename_i t ht
      cases hg
      simp only [wants] at hw
      have key := hI.tget t
      unfold yielded
      simp only [ht, Option.bind_some]
      split at hw
      · rename_i c hc
        cases hw
        rw [hc] at key
        rcases key with key | ⟨x, h1, h2⟩
        · cases key
        · rw [h1, h2.v_inv]
          cases c <;> cases b' <;> rfl
      · rename_i hc
        cases hw
        rw [hc] at key
        rcases key with key | ⟨x, h1, vs, rfl, h2, _⟩
        · cases key
        · rw [h1]
          rfl
      · cases hw
    · cases hg
theorem XRes.wp {Φ : Value → World → Prop} (h : XRes P Φ o a w) (hK : ∀ y w', Φ y w' → K (a.put o.dst y) w') : o.wp P a w K Q := by
  unfold Oper.wp
  rcases h with ⟨y, w', h1, h2⟩ | ⟨f, args, h1, h2⟩
  · rw [h1]; exact hK _ _ h2
  · rw [h1]
    refine h2.mono fun e w' ⟨y, he, h⟩ => ?_
    subst he
    exact hK _ _ h
def setD (T : List AV) (d : Option Nat) (x : AV) : List AV := match d with | some d => T.set d x | none => T
theorem step_x (hcall : CallOk2 P G call) (hI : Inv G w0 S0 T g μ a w) (hg0 : ∀ k x, g0 k = some x → ∃ x', g k = some x' ∧ Le x x') (hi : ops[i]? = some o) (hc : cOp P ow o = some op) {gd : Option (Nat × Bool)} (hgs : gslot ops o.guard = some gd)
    (hw : wants T gd = some true) (hx : isX op = true) (hd : denX call G T g0 d j op = some r) (hf : Fresh g r.new)
    (hK : ∀ a' w' μ', Inv G w0 S0 (setD T o.dst r.x) (gx g r.new r.seals) μ' a' w' → (∀ k ∈ r.seals, (g k).isSome) → K a' w') : wpOp P ops Q i K a w := by
  unfold wpOp
  simp only [hi, wants_ok hI hgs hw, if_true]
  left
  refine (X_sound hcall.1 hI hg0 hc hx hd hf).wp fun y w' ⟨ν, h⟩ => hK _ _ _ (hI.fx h o.dst) h.sl
theorem step_skip (hI : Inv G w0 S0 T g μ a w) (hi : ops[i]? = some o) {gd : Option (Nat × Bool)} (hgs : gslot ops o.guard = some gd) (hw : wants T gd = some false)
    (hK : ∀ a' w' μ', Inv G w0 S0 (setD T o.dst (.tup [])) g μ' a' w' → K a' w') : wpOp P ops Q i K a w := by
  unfold wpOp
  simp only [hi, wants_ok hI hgs hw]
  exact hK _ _ _ (hI.putO o.dst (undef_rep _))
structure From (P : Program) (ow : Nat → Bool) (ops : Array Oper) (c : CO) (o : Oper) : Prop where
  op : cOp P ow o = some c.op ∨ c.op = .bad
  guard : gslot ops o.guard = some c.guard
  dst : c.dst = o.dst
theorem From.x {g : Key → Option Ob} {c : CO} {o : Oper} (h : From P ow ops c o) (hd : denX call G T g d j c.op = some r) : cOp P ow o = some c.op := by
  rcases h.op with h | h
  · exact h
  · rw [h] at hd; cases hd
theorem From.m {c : CO} {o : Oper} {d : Option Nat} (h : From P ow ops c o) (hd : denM G σ d c.op = some σ') : cOp P ow o = some c.op := by
  rcases h.op with h | h
  · exact h
  · rw [h] at hd; cases hd
theorem From.l {c : CO} {o : Oper} {d : Option Nat} (h : From P ow ops c o) (hd : denL call G σ d c.op = some σ') : cOp P ow o = some c.op := by
  rcases h.op with h | h
  · exact h
  · rw [h] at hd; cases d <;> cases hd
theorem cOs_from : ∀ {os : List Oper} {l : List CO}, cOs P ow ops os = some l → l.length = os.length ∧ ∀ (n : Nat) (c : CO), l[n]? = some c → ∃ o, os[n]? = some o ∧ From P ow ops c o
  | [], l, h => by simp [cOs] at h; subst h; exact ⟨rfl, fun n c h => by simp at h⟩
  | o :: os, l, h => by
    simp only [cOs, Option.bind_eq_some_iff, Option.some.injEq] at h
    obtain ⟨gd, hg, m, hm, rfl⟩ := h
    obtain ⟨h1, h2⟩ := cOs_from hm
    refine ⟨by simp [h1], fun n c hc => ?_⟩
    cases n with
    | zero =>
      simp at hc
      subst hc
      refine ⟨o, rfl, ?_, hg, rfl⟩
      cases hp : cOp P ow o with
      | none => exact .inr rfl
      | some p => exact .inl rfl
    | succ n => exact h2 n c (by simpa using hc)
theorem fresh_of {new : List (Key × Ob)} {l : List (Key × Ob)} (h : freshO l new = true) : Fresh (getO l) new := fun k x hm => freshO_mem h k x hm
theorem step_1 (hcall : CallOk2 P G call) (hI : Inv G w0 S0 σ.t (getO σ.o) μ a w) (hi : ops[i]? = some o) (hF : From P ow ops c o) (hd : den1 call G σ c = some σ')
    (hK : ∀ a' w' μ', Inv G w0 S0 σ'.t (getO σ'.o) μ' a' w' → K a' w') : wpOp P ops Q i K a w := by
  simp only [den1, Option.bind_eq_some_iff] at hd
  obtain ⟨b, hw, hd⟩ := hd
  cases b with
  | false =>
    simp only [cond_false, Option.some.injEq] at hd
    subst hd
    refine step_skip hI hi hF.guard hw fun a' w' μ' h => hK a' w' μ' ?_
    rw [← hF.dst] at h
    exact h
  | true =>
    simp only [cond_true, denO] at hd
    split at hd
    · rename_i hx
      simp only [Option.bind_eq_some_iff] at hd
      obtain ⟨r, hr, hd⟩ := hd
      split at hd
      · rename_i h
        cases hd
        simp only [Bool.and_eq_true] at h
        refine step_x hcall hI (fun k x h => ⟨x, h, .refl x⟩) hi (hF.x hr) hF.guard hw hx hr (fresh_of h.2) fun a' w' μ' h _ => hK a' w' μ' ?_
        rw [← hF.dst] at h
        rw [← getO_app] at h
        exact h
      · cases hd
    · rename_i hx
      unfold wpOp
      simp only [hi, wants_ok hI hF.guard hw, if_true]
      left
      rw [hF.dst] at hd
      split at hd
      · rename_i hl
        obtain ⟨c0, f, fs, e1, e2, e3⟩ := cOp_lend (hF.l hd) hl
        cases hds : o.dst with
        | none => rw [hds, e3] at hd; cases hd
        | some d =>
          rw [hds, e3] at hd
          exact (L_sound hcall.2 hI e1 e2 hds hd).wp fun y w' ⟨μ', h⟩ => hK _ _ _ h
      obtain ⟨n, y, w', h1, h2, μ', h3⟩ := M_sound hI (hF.m hd) (by simpa using hx) hd
      unfold Oper.wp
      rw [h1]
      rcases h2 with rfl | ⟨rfl, rfl⟩
      · exact hK _ _ _ h3
      · exact hK _ _ _ h3
theorem Os_sound (hcall : CallOk2 P G call) : ∀ (l : List CO) (i : Nat) (σ : St) (μ : Key → Option (Nat × Nat)) (a : Act) (w : World), (∀ (n : Nat) (c : CO), l[n]? = some c → ∃ o, ops[i + n]? = some o ∧ From P ow ops c o) → denOs call G l σ = some σ' →
    Inv G w0 S0 σ.t (getO σ.o) μ a w → (∀ a' w' μ', Inv G w0 S0 σ'.t (getO σ'.o) μ' a' w' → Q .normal a' w') → wpOps P ops Q (List.range' i l.length) a w
  | [], i, σ, μ, a, w, _, h, hI, hQ => by
    simp only [denOs, Option.some.injEq] at h
    subst h
    exact hQ _ _ _ hI
  | c :: l, i, σ, μ, a, w, hl, h, hI, hQ => by
    simp only [denOs, Option.bind_eq_some_iff] at h
    obtain ⟨σ1, h1, h2⟩ := h
    rw [List.length_cons, List.range'_succ, wpOps_cons]
    obtain ⟨o, ho, hF⟩ := hl 0 c rfl
    refine step_1 hcall hI ho hF h1 fun a' w' μ' hI' => Os_sound hcall l (i + 1) σ1 μ' a' w' (fun n c hc => ?_) h2 hI' hQ
    rw [show i + 1 + n = i + (n + 1) by omega]
    exact hl (n + 1) c hc
end
end Go.Proofs.YtmhdapjmndfkgaaGreatDoor.Eng
namespace Go.Proofs.YtmhdapjmndfkgaaGreatDoor.Eng
open Go Go.RowKit
section
variable {call : Call} {G : Nat → AV} {t t' : List AV} {g : Key → Option Ob} {d j : Nat}
def Agree (t t' : List AV) (l : List Nat) : Prop := ∀ s ∈ l, t.getD s .undef = t'.getD s .undef
theorem Agree.left {l m : List Nat} (h : Agree t t' (l ++ m)) : Agree t t' l := fun s hs => h s (List.mem_append_left _ hs)
theorem Agree.right {l m : List Nat} (h : Agree t t' (l ++ m)) : Agree t t' m := fun s hs => h s (List.mem_append_right _ hs)
theorem ev_congr {x : CX} (h : Agree t t' (xs1 x)) : ev t G x = ev t' G x := by
  cases x with
  | t i => exact h i (by simp [xs1])
  | c a => rfl
  | g n => rfl
theorem argsOf_congr : ∀ {l : List CX}, Agree t t' (l.flatMap xs1) → argsOf t G l = argsOf t' G l
  | [], _ => rfl
  | x :: l, h => by
    rw [List.flatMap_cons] at h
    simp only [argsOf, ev_congr (G := G) h.left, argsOf_congr h.right]
theorem capsOf_congr : ∀ {l : List CX}, Agree t t' (l.flatMap xs1) → capsOf G t g l = capsOf G t' g l
  | [], _ => rfl
  | x :: l, h => by
    rw [List.flatMap_cons] at h
    simp only [capsOf, capOf, ev_congr (G := G) h.left, capsOf_congr h.right]
theorem fzParts_congr : ∀ {l : List (Nat × CX)}, Agree t t' (l.flatMap fun p => xs1 p.2) → fzParts t G l = fzParts t' G l
  | [], _ => rfl
  | (i, x) :: l, h => by
    rw [List.flatMap_cons] at h
    simp only [fzParts, ev_congr (G := G) h.left, fzParts_congr h.right]
theorem parts_congr : ∀ {l : List (Nat × Nat × CX)}, Agree t t' (l.flatMap fun p => xs1 p.2.2) → (l.map fun p => (p.1, p.2.1, ev t G p.2.2)) = l.map fun p => (p.1, p.2.1, ev t' G p.2.2)
  | [], _ => rfl
  | (i, n, x) :: l, h => by
    rw [List.flatMap_cons] at h
    simp only [List.map_cons, ev_congr (G := G) h.left, parts_congr h.right]
theorem opt_congr {x : Option CX} (h : Agree t t' ((x.map xs1).getD [])) : x.map (ev t G) = x.map (ev t' G) := by
  cases x with
  | none => rfl
  | some x => simp only [Option.map_some]; rw [ev_congr (G := G) h]
theorem denX_congr {op : COp} (h : Agree t t' (usesOp op)) : denX call G t g d j op = denX call G t' g d j op := by
  cases op <;> simp only [usesOp] at h
  case nil => rfl
  case alloc => rfl
  case bad => rfl
  case pick c a b => simp only [denX, ev_congr (G := G) h.left.left, ev_congr (G := G) h.left.right, ev_congr (G := G) h.right]
  case build z ps => simp only [denX, parts_congr (G := G) h]
  case bsl n sz z ps => simp only [denX, fzParts_congr (G := G) h]
  case mkf f l => simp only [denX, capsOf_congr (G := G) h]
  case call o f l => simp only [denX, argsOf_congr (G := G) h]
  case cal o f l => simp only [denX, ev_congr (G := G) h.left, argsOf_congr (G := G) h.right]
  case sls x lo hi =>
    cases lo <;> cases hi <;> simp only [Option.map_none, Option.map_some, Option.getD_none, Option.getD_some, List.append_nil] at h <;> simp only [denX]
    · rw [ev_congr (G := G) h]
    · rw [ev_congr (G := G) h.left, ev_congr (G := G) h.right]
    · rw [ev_congr (G := G) h.left, ev_congr (G := G) h.right]
    · rw [ev_congr (G := G) h.left.left, ev_congr (G := G) h.left.right, ev_congr (G := G) h.right]
  case slc sz x lo hi =>
    cases lo <;> cases hi <;> simp only [Option.map_none, Option.map_some, Option.getD_none, Option.getD_some, List.append_nil] at h <;> simp only [denX]
    · rw [ev_congr (G := G) h]
    · rw [ev_congr (G := G) h.left, ev_congr (G := G) h.right]
    · rw [ev_congr (G := G) h.left, ev_congr (G := G) h.right]
    · rw [ev_congr (G := G) h.left.left, ev_congr (G := G) h.left.right, ev_congr (G := G) h.right]
  case slv sz x lo hi =>
    cases lo <;> cases hi <;> simp only [Option.map_none, Option.map_some, Option.getD_none, Option.getD_some, List.append_nil] at h <;> simp only [denX]
    · rw [ev_congr (G := G) h]
    · rw [ev_congr (G := G) h.left, ev_congr (G := G) h.right]
    · rw [ev_congr (G := G) h.left, ev_congr (G := G) h.right]
    · rw [ev_congr (G := G) h.left.left, ev_congr (G := G) h.left.right, ev_congr (G := G) h.right]
  case len s x => cases s <;> simp only [denX, ev_congr (G := G) h]
  case st => rfl
  case app => rfl
  case lend => rfl
  case apd => rfl
  case cut => rfl
  all_goals first
    | (simp only [denX, ev_congr (G := G) h]; done)
    | (simp only [denX, ev_congr (G := G) h.left, ev_congr (G := G) h.right]; done)
theorem wants_congr {gd : Option (Nat × Bool)} (h : Agree t t' (match gd with | some (t, _) => [t] | none => [])) : wants t gd = wants t' gd := by
  cases gd with
  | none => rfl
  | some p => simp only [wants]; rw [h p.1 (by simp)]
theorem denP1_congr {o : List (Key × Ob)} {c : CO} (h : Agree t t' (usesO c)) : denP1 call G o t c = denP1 call G o t' c := by
  unfold denP1
  rw [wants_congr (h.right)]
  simp only [denX_congr (op := c.op) h.left]
end
def selT (L : Nat → Bool) : List PD → List AV → List AV
  | [], t => t
  | p :: D, t => selT (fun j => L (j + 1)) D (bif L 0 then t.set p.d p.v else t)
def selN (L : Nat → Bool) : List PD → List (Key × Ob)
  | [] => []
  | p :: D => (bif L 0 then p.new else []) ++ selN (fun j => L (j + 1)) D
def selS (L : Nat → Bool) : List PD → List Key
  | [] => []
  | p :: D => (bif L 0 then p.seals else []) ++ selS (fun j => L (j + 1)) D
theorem selT_len : ∀ (D : List PD) (L : Nat → Bool) (t : List AV), (selT L D t).length = t.length
  | [], _, _ => rfl
  | p :: D, L, t => by
    simp only [selT]
    rw [selT_len D]
    cases L 0 <;> simp
theorem selT_not : ∀ {D : List PD} {L : Nat → Bool} {t : List AV} {s : Nat}, (∀ (j : Nat) (p : PD), D[j]? = some p → L j = true → p.d ≠ s) → (selT L D t)[s]? = t[s]?
  | [], _, _, _, _ => rfl
  | p :: D, L, t, s, h => by
    simp only [selT]
    rw [selT_not (fun j p hj hl => h (j + 1) p (by simpa using hj) hl)]
    cases hL : L 0 with
    | false => rfl
    | true =>
      simp only [cond_true]
      rw [List.getElem?_set_ne (h 0 p rfl hL)]
theorem selT_of : ∀ {D : List PD} {L : Nat → Bool} {t : List AV} {j : Nat} {p : PD}, D[j]? = some p → L j = true → (∀ (j' : Nat) (p' : PD), D[j']? = some p' → p'.d = p.d → j' = j) → (selT L D t)[p.d]? = (t[p.d]?).map fun _ => p.v
  | [], _, _, j, _, h, _, _ => by simp at h
  | p0 :: D, L, t, 0, p, h, hL, hd => by
    simp at h
    subst h
    simp only [selT]
    rw [selT_not (fun j p' hj _ he => by have := hd (j + 1) p' (by simpa using hj) he; omega), hL]
    simp only [cond_true]
    rw [List.getElem?_set]
    simp only [if_true]
    by_cases hlt : p0.d < t.length
    · simp [hlt]
    · simp [hlt]
  | p0 :: D, L, t, j + 1, p, h, hL, hd => by
    simp only [selT]
    rw [selT_of (j := j) (by simpa using h) hL (fun j' p' hj he => by have := hd (j' + 1) p' (by simpa using hj) he; omega)]
    have hne : p0.d ≠ p.d := fun he => by have := hd 0 p0 rfl he; omega
    cases L 0 with
    | false => rfl
    | true => simp only [cond_true]; rw [List.getElem?_set_ne hne]
theorem selS_mem : ∀ {D : List PD} {L : Nat → Bool} {k : Key}, k ∈ selS L D ↔ ∃ (j : Nat) (p : PD), D[j]? = some p ∧ L j = true ∧ k ∈ p.seals
  | [], L, k => by simp [selS]
  | p :: D, L, k => by
    simp only [selS, List.mem_append]
    rw [selS_mem (D := D)]
    constructor
    · rintro (h | ⟨j, p', h1, h2, h3⟩)
      · cases hL : L 0 with
        | false => rw [hL] at h; cases h
        | true => rw [hL] at h; exact ⟨0, p, rfl, hL, h⟩
      · exact ⟨j + 1, p', by simpa using h1, h2, h3⟩
    · rintro ⟨j, p', h1, h2, h3⟩
      cases j with
      | zero => simp at h1; subst h1; left; rw [h2]; exact h3
      | succ j => exact .inr ⟨j, p', by simpa using h1, h2, h3⟩
theorem getO_none {l : List (Key × Ob)} {k : Key} (h : ∀ x, (k, x) ∉ l) : getO l k = none := by
  cases hg : getO l k with
  | none => rfl
  | some x => exact absurd (getO_mem hg) (h x)
theorem selN_not : ∀ {D : List PD} {L : Nat → Bool} {k : Key}, (∀ (j : Nat) (p : PD), D[j]? = some p → ∀ q ∈ p.new, q.1.1 = p.d) → (∀ (j : Nat) (p : PD), D[j]? = some p → L j = true → p.d ≠ k.1) → getO (selN L D) k = none
  | [], _, _, _, _ => rfl
  | p :: D, L, k, hk, h => by
    simp only [selN]
    rw [getO_append, selN_not (fun j p hj => hk (j + 1) p (by simpa using hj)) (fun j p hj hl => h (j + 1) p (by simpa using hj) hl), Option.or_none]
    cases hL : L 0 with
    | false => rfl
    | true => exact getO_none fun x hm => h 0 p rfl hL (hk 0 p rfl _ hm).symm
theorem selN_of : ∀ {D : List PD} {L : Nat → Bool} {k : Key} {j : Nat} {p : PD}, (∀ (j : Nat) (p : PD), D[j]? = some p → ∀ q ∈ p.new, q.1.1 = p.d) → D[j]? = some p → L j = true → (∀ (j' : Nat) (p' : PD), D[j']? = some p' → p'.d = p.d → j' = j) → k.1 = p.d → getO (selN L D) k = getO p.new k
  | [], _, _, j, _, _, h, _, _, _ => by simp at h
  | p0 :: D, L, k, 0, p, hk, h, hL, hd, he => by
    simp at h
    subst h
    simp only [selN]
    rw [getO_append, selN_not (fun j p hj => hk (j + 1) p (by simpa using hj)) (fun j p' hj _ h => by have := hd (j + 1) p' (by simpa using hj) (h.trans he); omega), Option.or_none, hL]
    rfl
  | p0 :: D, L, k, j + 1, p, hk, h, hL, hd, he => by
    simp only [selN]
    rw [getO_append, selN_of (j := j) (fun j p hj => hk (j + 1) p (by simpa using hj)) (by simpa using h) hL (fun j' p' hj h => by have := hd (j' + 1) p' (by simpa using hj) h; omega) he]
    have hne : p0.d ≠ k.1 := fun h' => by have := hd 0 p0 rfl (h'.trans he); omega
    have : getO (bif L 0 then p0.new else []) k = none := by
      cases hL : L 0 with
      | false => rfl
      | true => exact getO_none fun x hm => hne (hk 0 p0 rfl _ hm).symm
    rw [this, Option.none_or]
theorem sel_all : ∀ {D : List PD} {L : Nat → Bool} {t : List AV}, (∀ j, j < D.length → L j = true) → selT L D t = D.foldl (fun t p => t.set p.d p.v) t ∧ selN L D = D.flatMap (·.new) ∧ selS L D = D.flatMap (·.seals)
  | [], _, _, _ => ⟨rfl, rfl, rfl⟩
  | p :: D, L, t, h => by
    obtain ⟨h1, h2, h3⟩ := sel_all (D := D) (L := fun j => L (j + 1)) (t := t.set p.d p.v) (fun j hj => h (j + 1) (by simpa using hj))
    have h0 := h 0 (by simp)
    simp only [selT, selN, selS, h0, cond_true, List.foldl_cons, List.flatMap_cons]
    exact ⟨h1, by rw [h2], by rw [h3]⟩
theorem sel_none : ∀ {D : List PD} {L : Nat → Bool} {t : List AV}, (∀ j, L j = false) → selT L D t = t ∧ selN L D = [] ∧ selS L D = []
  | [], _, _, _ => ⟨rfl, rfl, rfl⟩
  | p :: D, L, t, h => by
    obtain ⟨h1, h2, h3⟩ := sel_none (D := D) (L := fun j => L (j + 1)) (t := t) (fun j => h (j + 1))
    simp only [selT, selN, selS, h 0, cond_false, List.nil_append]
    exact ⟨h1, h2, h3⟩
def selL (L : Nat → Bool) : List PD → List (Key × Nat) → List (Key × Nat)
  | [], acc => acc
  | p :: D, acc => selL (fun j => L (j + 1)) D (bif L 0 then p.upd.toList ++ acc else acc)
theorem selL_all : ∀ {D : List PD} {L : Nat → Bool} {acc : List (Key × Nat)}, (∀ j, j < D.length → L j = true) → selL L D acc = lensOf D acc
  | [], _, _, _ => rfl
  | p :: D, L, acc, h => by
    simp only [selL, lensOf, h 0 (by simp), cond_true]
    exact selL_all fun j hj => h (j + 1) (by simpa using hj)
theorem selL_none : ∀ {D : List PD} {L : Nat → Bool} {acc : List (Key × Nat)}, (∀ j, L j = false) → selL L D acc = acc
  | [], _, _, _ => rfl
  | p :: D, L, acc, h => by
    simp only [selL, h 0, cond_false]
    exact selL_none fun j => h (j + 1)
theorem lenOf_upd {p : PD} {acc : List (Key × Nat)} {k : Key} (h : ∀ n, p.upd ≠ some (k, n)) : lenOf (p.upd.toList ++ acc) k = lenOf acc k := by
  cases hu : p.upd with
  | none => rfl
  | some q =>
    simp only [Option.toList, List.cons_append, List.nil_append, lenOf]
    rw [if_neg fun e => h q.2 (by rw [hu, ← e])]
theorem selL_agree {k : Key} : ∀ {D : List PD} {L L' : Nat → Bool} {acc acc' : List (Key × Nat)}, lenOf acc k = lenOf acc' k → (∀ (j : Nat) (p : PD) (n : Nat), D[j]? = some p → p.upd = some (k, n) → L j = L' j) → lenOf (selL L D acc) k = lenOf (selL L' D acc') k
  | [], _, _, _, _, h, _ => h
  | p :: D, L, L', acc, acc', h, hL => by
    simp only [selL]
    refine selL_agree ?_ fun j q n hj hu => hL (j + 1) q n (by simpa using hj) hu
    by_cases hp : ∃ n, p.upd = some (k, n)
    · obtain ⟨n, hn⟩ := hp
      rw [hL 0 p n rfl hn]
      cases L' 0
      · exact h
      · simp only [cond_true, hn, Option.toList, List.cons_append, List.nil_append, lenOf]; simp
    · have hp : ∀ n, p.upd ≠ some (k, n) := fun n h => hp ⟨n, h⟩
      cases L 0 <;> cases L' 0 <;> simp only [cond_true, cond_false, lenOf_upd hp] <;> exact h
theorem selL_last {k : Key} {n : Nat} : ∀ {D : List PD} {L : Nat → Bool} {acc : List (Key × Nat)} {j : Nat} {p : PD}, D[j]? = some p → p.upd = some (k, n) → L j = true → (∀ (j' : Nat) (p' : PD) (n' : Nat), j < j' → D[j']? = some p' → p'.upd = some (k, n') → L j' = false) → lenOf (selL L D acc) k = some n
  | [], _, _, j, p, h, _, _, _ => by simp at h
  | q :: D, L, acc, 0, p, h, hu, hL, hn => by
    simp at h
    subst h
    simp only [selL, hL, cond_true, hu, Option.toList, List.cons_append, List.nil_append]
    rw [selL_agree (L' := fun _ => false) (acc' := (k, n) :: acc) rfl fun j p n hj hu => hn (j + 1) p n (by omega) (by simpa using hj) hu, selL_none fun _ => rfl]
    simp [lenOf]
  | q :: D, L, acc, j + 1, p, h, hu, hL, hn => by
    simp only [selL]
    exact selL_last (j := j) (by simpa using h) hu hL fun j' p' n' hj hp hu => hn (j' + 1) p' n' (by omega) (by simpa using hp) hu
theorem denPs_get {call : Call} {G : Nat → AV} {o : List (Key × Ob)} : ∀ {l : List CO} {t : List AV} {acc : List (Key × Ob)} {lens : List (Key × Nat)} {D : List PD}, denPs call G o l t acc lens = some D → D.length = l.length ∧
    ∀ (i : Nat) (c : CO), l[i]? = some c → ∃ p, D[i]? = some p ∧ denPA call G o (acc ++ selN (fun j => decide (j < i)) D) (selL (fun j => decide (j < i)) D lens) (selT (fun j => decide (j < i)) D t) c = some p
  | [], t, acc, lens, D, h => by simp [denPs] at h; subst h; exact ⟨rfl, fun i c h => by simp at h⟩
  | c :: l, t, acc, lens, D, h => by
    simp only [denPs, Option.bind_eq_some_iff, Option.some.injEq] at h
    obtain ⟨p, hp, D', hD, rfl⟩ := h
    obtain ⟨h1, h2⟩ := denPs_get hD
    refine ⟨by simp [h1], fun i c' hc => ?_⟩
    cases i with
    | zero =>
      simp at hc
      subst hc
      refine ⟨p, rfl, ?_⟩
      obtain ⟨e1, e2, _⟩ := sel_none (D := p :: D') (t := t) (L := fun j => decide (j < 0)) (fun j => by simp)
      rw [e1, e2, selL_none (fun j => by simp), List.append_nil]
      exact hp
    | succ i =>
      obtain ⟨q, hq, h3⟩ := h2 i c' (by simpa using hc)
      refine ⟨q, by simpa using hq, ?_⟩
      simp only [selT, selN, selL, Nat.zero_lt_succ, decide_true, cond_true, Nat.add_lt_add_iff_right]
      rw [← List.append_assoc]
      exact h3
theorem foldl_or {e : List Edge} {f : Edge → Bool} {h : Edge → Nat} {b : Nat} : ∀ {s : Nat}, (e.foldl (fun s e => bif f e then s ||| h e else s) s).testBit b = true → s.testBit b = true ∨ ∃ x ∈ e, f x = true ∧ (h x).testBit b = true := by
  induction e with
  | nil => exact fun h => .inl h
  | cons x e ih =>
    intro s hs
    rw [List.foldl_cons] at hs
    rcases ih hs with h1 | ⟨y, hy, h1⟩
    · cases hf : f x with
      | false => rw [hf] at h1; exact .inl h1
      | true =>
        rw [hf] at h1
        simp only [cond_true, Nat.testBit_or, Bool.or_eq_true] at h1
        rcases h1 with h1 | h1
        · exact .inl h1
        · exact .inr ⟨x, List.mem_cons_self, hf, h1⟩
    · exact .inr ⟨y, List.mem_cons_of_mem _ hy, h1⟩
theorem masks_get : ∀ (l : List Oper) (acc : List Nat), (masks l acc).length = acc.length + l.length ∧ (∀ i, i < acc.length → (masks l acc).getD i 0 = acc.getD i 0) ∧
    ∀ (j : Nat) (o : Oper) (b : Nat), l[j]? = some o → ((masks l acc).getD (acc.length + j) 0).testBit b = true → ∃ e ∈ o.after, Region.binds .any e = true ∧ e.on < acc.length + j ∧ (b = e.on ∨ ((masks l acc).getD e.on 0).testBit b = true)
  | [], acc => ⟨rfl, fun i h => rfl, fun j o b h => by simp at h⟩
  | o :: l, acc => by
    let x := o.after.foldl (fun s e => bif Region.binds .any e && decide (e.on < acc.length) then s ||| (2 ^ e.on ||| acc.getD e.on 0) else s) 0
    have hm : masks (o :: l) acc = masks l (acc ++ [x]) := rfl
    obtain ⟨h1, h2, h3⟩ := masks_get l (acc ++ [x])
    have ha : ∀ i, i < acc.length → (masks (o :: l) acc).getD i 0 = acc.getD i 0 := by
      intro i hi
      rw [hm, h2 i (by simp; omega)]
      simp [List.getD_eq_getElem?_getD, List.getElem?_append_left hi]
    refine ⟨by rw [hm, h1]; simp; omega, ha, fun j o' b hj hb => ?_⟩
    cases j with
    | zero =>
      simp at hj
      subst hj
      rw [Nat.add_zero, hm, h2 _ (by simp)] at hb
      simp only [List.getD_eq_getElem?_getD, List.getElem?_append_right (Nat.le_refl _), Nat.sub_self] at hb
      have hb : x.testBit b = true := by simpa using hb
      simp only [x, ← Array.foldl_toList] at hb
      rcases foldl_or hb with hb | ⟨e, he, hf, hb⟩
      · simp at hb
      · simp only [Bool.and_eq_true, decide_eq_true_eq] at hf
        refine ⟨e, Array.mem_toList_iff.1 he, hf.1, by omega, ?_⟩
        rw [Nat.testBit_or, Bool.or_eq_true] at hb
        rcases hb with hb | hb
        · rw [Nat.testBit_two_pow] at hb
          exact .inl (of_decide_eq_true hb).symm
        · exact .inr (by rw [ha _ hf.2]; exact hb)
    | succ j =>
      have e1 : acc.length + (j + 1) = (acc ++ [x]).length + j := by simp; omega
      rw [e1] at hb ⊢
      exact h3 j o' b (by simpa using hj) hb
def Closed (ops : Array Oper) (L : Nat → Bool) : Prop := ∀ (i : Nat) (o : Oper), L i = true → ops[i]? = some o → ∀ e ∈ o.after, Region.binds .any e = true → L e.on = true
theorem masks_sound {ops : Array Oper} {L : Nat → Bool} (hc : Closed ops L) : ∀ (n j : Nat), j < n → ∀ (o : Oper), ops[j]? = some o → (∀ e ∈ o.after, Region.binds .any e = true → L e.on = true) → ∀ b, ((masks ops.toList []).getD j 0).testBit b = true → L b = true
  | 0, j, h, _, _, _, _, _ => by omega
  | n + 1, j, h, o, ho, he, b, hb => by
    obtain ⟨e, h1, h2, h3, h4⟩ := (masks_get ops.toList []).2.2 j o b (by rw [Array.getElem?_toList]; exact ho) (by simpa using hb)
    simp only [List.length_nil, Nat.zero_add] at h3
    rcases h4 with rfl | h4
    · exact he e h1 h2
    · have hlt : e.on < ops.size := by
        have := (Array.getElem?_eq_some_iff.1 ho).1
        omega
      refine masks_sound hc n e.on (by omega) ops[e.on] (Array.getElem?_eq_getElem hlt) (fun e' h1' h2' => hc e.on _ (he e h1 h2) (Array.getElem?_eq_getElem hlt) e' h1' h2') b h4
end Go.Proofs.YtmhdapjmndfkgaaGreatDoor.Eng
namespace Go.Proofs.YtmhdapjmndfkgaaGreatDoor.Eng
open Go Go.RowKit
section
variable {P : Program} {G : Nat → AV} {w0 w w' : World} {S0 : Sb} {T : List AV} {g g' : Key → Option Ob} {μ μ' ν : Key → Option (Nat × Nat)} {a : Act} {o : Oper} {r : R} {call : Call} {g0 : Key → Option Ob} {d j : Nat} {op : COp} {ow : Nat → Bool} {f : AV → AV} {σ σ' : St}
  {ops : Array Oper} {Q : Exit → Act → World → Prop} {K : Act → World → Prop} {i : Nat} {c : CO}
abbrev lst (listed : Array Bool) : Nat → Bool := fun i => listed.getD i false
theorem ready_iff {listed : Array Bool} (hs : listed.size = ops.size) {i : Nat} : i ∈ Region.ready .any ops listed ↔ ∃ o, ops[i]? = some o ∧ lst listed i = false ∧ ∀ e ∈ o.after, Region.binds .any e = true → lst listed e.on = true := by
  unfold Region.ready
  simp only [List.mem_filter, List.mem_range, Bool.and_eq_true, Bool.not_eq_true']
  constructor
  · rintro ⟨h1, h2, h3⟩
    have ho : ops[i]? = some ops[i] := Array.getElem?_eq_getElem h1
    refine ⟨_, ho, ?_, fun e he hb => ?_⟩
    · simp only [lst, Array.getD_eq_getD_getElem?] at h2 ⊢
      rw [Array.getElem?_eq_getElem (by omega)] at h2 ⊢
      exact h2
    · rw [ho] at h3
      simp only [Option.map_some, Option.getD_some, Array.all_eq_true_iff_forall_mem] at h3
      have := h3 e he
      rw [hb] at this
      simpa using this
  · rintro ⟨o, ho, h2, h3⟩
    have h1 : i < ops.size := (Array.getElem?_eq_some_iff.1 ho).1
    refine ⟨h1, ?_, ?_⟩
    · simp only [lst, Array.getD_eq_getD_getElem?] at h2 ⊢
      rw [Array.getElem?_eq_getElem (by omega)] at h2 ⊢
      exact h2
    · rw [ho]
      simp only [Option.map_some, Option.getD_some, Array.all_eq_true_iff_forall_mem]
      intro e he
      cases hb : Region.binds .any e with
      | false => rfl
      | true => simpa using h3 e he hb
theorem lst_set {listed : Array Bool} {i : Nat} (hi : i < listed.size) (k : Nat) : lst (listed.setIfInBounds i true) k = (lst listed k || decide (k = i)) := by
  simp only [lst, Array.getD_eq_getD_getElem?, Array.getElem?_setIfInBounds]
  by_cases h : i = k
  · subst h; simp [hi]
  · have : ¬ k = i := fun e => h e.symm
    simp [h, this]
def unl (L : Nat → Bool) : Nat → Nat
  | 0 => 0
  | n + 1 => unl L n + (bif L n then 0 else 1)
theorem unl_congr {L L' : Nat → Bool} : ∀ {n : Nat}, (∀ k, k < n → L k = L' k) → unl L n = unl L' n
  | 0, _ => rfl
  | n + 1, h => by simp only [unl]; rw [unl_congr (n := n) fun k hk => h k (by omega), h n (by omega)]
theorem unl_set {L : Nat → Bool} {i : Nat} (hL : L i = false) : ∀ {n : Nat}, i < n → unl L n = unl (fun k => L k || decide (k = i)) n + 1
  | n + 1, h => by
    simp only [unl]
    by_cases he : i = n
    · subst he
      have hc : unl (fun k => L k || decide (k = i)) i = unl L i := unl_congr fun k hk => by
        have : ¬ k = i := by omega
        simp [this]
      rw [hc]
      simp [hL]
    · rw [unl_set hL (n := n) (by omega)]
      have : ¬ n = i := fun e => he e.symm
      simp only [this, decide_false, Bool.or_false]
      omega
theorem unl_zero {L : Nat → Bool} : ∀ {n : Nat}, unl L n = 0 → ∀ k, k < n → L k = true
  | n + 1, h, k, hk => by
    simp only [unl] at h
    by_cases he : k = n
    · subst he; cases hL : L k with
      | true => rfl
      | false => rw [hL] at h; simp at h
    · exact unl_zero (n := n) (by omega) k (by omega)
theorem unl_cut {L : Nat → Bool} {m : Nat} : ∀ {n : Nat}, m ≤ n → (∀ k, k < n → L k = decide (k < m)) → unl L n = n - m
  | 0, h, _ => by simp [unl]
  | n + 1, h, hL => by
    simp only [unl]
    by_cases he : m = n + 1
    · subst he
      have : ∀ {n' : Nat}, n' ≤ n + 1 → unl L n' = 0 := by
        intro n'
        induction n' with
        | zero => intro _; rfl
        | succ n' ih => intro hn; simp only [unl]; rw [ih (by omega), hL n' (by omega)]; have : n' < n + 1 := (by omega); simp [this]
      rw [this (by omega), hL n (by omega)]
      simp
    · rw [unl_cut (n := n) (by omega) fun k hk => hL k (by omega), hL n (by omega)]
      have : ¬ n < m := by omega
      simp [this]
      omega
theorem back_get (hb : backOk ops = true) {i : Nat} {o : Oper} (hi : ops[i]? = some o) : ∀ e ∈ o.after, Region.binds .any e = true → e.on < i := by
  intro e he hbd
  unfold backOk at hb
  have := List.all_eq_true.1 hb i (List.mem_range.2 (Array.getElem?_eq_some_iff.1 hi).1)
  rw [hi] at this
  simp only [Array.all_eq_true_iff_forall_mem] at this
  have := this e he
  rw [hbd] at this
  simpa using this
theorem barred_get {m : Nat} (h : barred (masks ops.toList []) m = true) {j k : Nat} (hj : j < ops.size) (hm : m ≤ j) (hk : k < j) : ((masks ops.toList []).getD j 0).testBit k = true := by
  unfold barred at h
  have := List.all_eq_true.1 h j (List.mem_range.2 (by rw [(masks_get _ _).1]; simpa using hj))
  simp only [Bool.or_eq_true, decide_eq_true_eq] at this
  rcases this with h | h
  · omega
  · exact List.all_eq_true.1 h k (List.mem_range.2 hk)
theorem suf_sound (hcall : CallOk2 P G call) (hback : backOk ops = true) {m : Nat} (hbar : barred (masks ops.toList []) m = true) {l : List CO} (hl : l.length = ops.size) (hF : ∀ (n : Nat) (c : CO), l[n]? = some c → ∃ o, ops[n]? = some o ∧ From P ow ops c o)
    (hQ : ∀ a' w' μ', Inv G w0 S0 σ'.t (getO σ'.o) μ' a' w' → Q .normal a' w') : ∀ (fuel i : Nat) (listed : Array Bool) (σ : St) (μ : Key → Option (Nat × Nat)) (a : Act) (w : World), m ≤ i → i + fuel = ops.size → listed.size = ops.size →
    (∀ k, k < ops.size → lst listed k = decide (k < i)) → denOs call G (l.drop i) σ = some σ' → Inv G w0 S0 σ.t (getO σ.o) μ a w → wpAny P .any ops Q fuel listed a w
  | 0, i, listed, σ, μ, a, w, hm, hi, hs, hL, hd, hI => by
    have hr : Region.ready .any ops listed = [] := by
      rw [List.eq_nil_iff_forall_not_mem]
      intro k hk
      obtain ⟨o, ho, h1, _⟩ := (ready_iff hs).1 hk
      have hk := (Array.getElem?_eq_some_iff.1 ho).1
      rw [hL k hk] at h1
      have : k < i := by omega
      simp [this] at h1
    refine ⟨hr, ?_⟩
    rw [List.drop_eq_nil_of_le (by omega)] at hd
    simp only [denOs, Option.some.injEq] at hd
    subst hd
    exact hQ _ _ _ hI
  | fuel + 1, i, listed, σ, μ, a, w, hm, hi, hs, hL, hd, hI => by
    have hlt : i < ops.size := by omega
    have ho : ops[i]? = some ops[i] := Array.getElem?_eq_getElem hlt
    have hmem : i ∈ Region.ready .any ops listed := (ready_iff hs).2 ⟨_, ho, by rw [hL i hlt]; simp, fun e he hb => by
      have := back_get hback ho e he hb
      rw [hL _ (by omega)]; simpa using this⟩
    have hcl : Closed ops (lst listed) := by
      intro k o hk hko e he hb
      have h1 := (Array.getElem?_eq_some_iff.1 hko).1
      rw [hL k h1] at hk
      simp at hk
      have := back_get hback hko e he hb
      rw [hL _ (by omega)]; simp; omega
    refine ⟨fun h => absurd (h ▸ hmem) (by simp), fun k hk => ?_⟩
    obtain ⟨o, hko, h1, h2⟩ := (ready_iff hs).1 hk
    have hks := (Array.getElem?_eq_some_iff.1 hko).1
    have hki : k = i := by
      rw [hL k hks] at h1
      simp at h1
      by_cases he : k = i
      · exact he
      · have := masks_sound hcl (k + 1) k (by omega) o hko h2 i (barred_get hbar hks (by omega) (by omega))
        rw [hL i hlt] at this
        simp at this
    subst hki
    rw [ho] at hko
    cases hko
    have hcl' : k < l.length := by omega
    have hdrop : l.drop k = l[k] :: l.drop (k + 1) := (List.drop_eq_getElem_cons hcl')
    rw [hdrop] at hd
    simp only [denOs, Option.bind_eq_some_iff] at hd
    obtain ⟨σ1, hd1, hd2⟩ := hd
    obtain ⟨o', ho', hfrom⟩ := hF k l[k] (List.getElem?_eq_getElem hcl')
    rw [ho] at ho'
    cases ho'
    refine step_1 hcall hI ho hfrom hd1 fun a' w' μ' hI' => suf_sound hcall hback hbar hl hF hQ fuel (k + 1) _ σ1 μ' a' w' (by omega) (by omega) (by simpa using hs) (fun k' hk' => ?_) hd2 hI'
    rw [lst_set (by omega), hL k' hk', Bool.eq_iff_iff]
    simp
    omega
theorem pre_get {l : List CO} {ms : List Nat} {m : Nat} (h : preOk l ms m = true) : m ≤ l.length ∧ ∀ (j i : Nat) (c : CO), j < m → i < m → i ≠ j → l[i]? = some c → ∃ cj d, l[j]? = some cj ∧ cj.dst = some d ∧ c.dst ≠ some d ∧ (d ∈ usesO c → j < i ∧ (ms.getD i 0).testBit j = true) := by
  unfold preOk at h
  simp only [Bool.and_eq_true, decide_eq_true_eq] at h
  refine ⟨h.1, fun j i c hj hi hne hc => ?_⟩
  have := List.all_eq_true.1 h.2 j (List.mem_range.2 hj)
  split at this
  · cases this
  · rename_i d hd
    simp only [Option.bind_eq_some_iff] at hd
    obtain ⟨cj, hcj, hd⟩ := hd
    refine ⟨cj, d, hcj, hd, ?_⟩
    have := List.all_eq_true.1 this i (List.mem_range.2 hi)
    rw [hc] at this
    simp only [Bool.or_eq_true, beq_iff_eq, hne, false_or, Bool.and_eq_true, bne_iff_ne, ne_eq, Bool.not_eq_true', decide_eq_true_eq] at this
    refine ⟨this.1, fun hd => ?_⟩
    rcases this.2 with h | h
    · have := List.contains_iff_mem.2 hd
      rw [h] at this; cases this
    · exact h
end
end Go.Proofs.YtmhdapjmndfkgaaGreatDoor.Eng
