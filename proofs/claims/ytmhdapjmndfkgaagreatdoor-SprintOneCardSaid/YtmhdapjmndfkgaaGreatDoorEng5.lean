/- The engine: small code, what it comes to, and that a program's calls come to it; part 5. No condition. -/
import Derived.Test.YtmhdapjmndfkgaaGreatDoorEng4
import Derived.LoopN
import Derived.SizedLaws
import Derived.Lib.LaidTab
set_option linter.unusedVariables false
set_option linter.unusedSimpArgs false
namespace Go.Proofs.YtmhdapjmndfkgaaGreatDoor.Eng
open Go Go.RowKit
section
variable {P : Program} {G : Nat → AV} {w0 w w' : World} {S0 : Sb} {T : List AV} {g g' : Key → Option Ob} {μ μ' ν : Key → Option (Nat × Nat)} {a : Act} {o : Oper} {r : R} {call : Call} {g0 : Key → Option Ob} {d j : Nat} {op : COp} {ow : Nat → Bool} {f : AV → AV} {σ σ' : St}
  {ops : Array Oper} {Q : Exit → Act → World → Prop} {K : Act → World → Prop} {i : Nat} {c : CO}
theorem gx_step {g0 : Key → Option Ob} {N N' n : List (Key × Ob)} {S S' s : List Key} (h1 : ∀ k ∈ S, (gx g0 N S k).isSome) (h2 : ∀ k ∈ s, (gx g0 N S k).isSome) (h3 : ∀ k, (getO n k).isSome → gx g0 N S k = none)
    (hN : ∀ k, getO N' k = (getO N k).or (getO n k)) (hS : ∀ k, k ∈ S' ↔ k ∈ S ∨ k ∈ s) : gx (gx g0 N S) n s = gx g0 N' S' := by
  funext k
  have e1 : S'.contains k = (S.contains k || s.contains k) := by
    rw [Bool.eq_iff_iff]
    simp [hS]
  cases hb : (g0 k).or (getO N k) with
  | none =>
    have hn : gx g0 N S k = none := by unfold gx; rw [hb]; split <;> rfl
    have c1 : S.contains k = false := by
      rw [Bool.eq_false_iff]; intro h; have := h1 k (by simpa using h); rw [hn] at this; cases this
    have c2 : s.contains k = false := by
      rw [Bool.eq_false_iff]; intro h; have := h2 k (by simpa using h); rw [hn] at this; cases this
    have l1 : gx (gx g0 N S) n s k = getO n k := by
      rw [gx, c2, hn]; simp
    have l2 : gx g0 N' S' k = getO n k := by
      rw [gx, e1, c1, c2, hN, ← Option.or_assoc, hb]; simp
    rw [l1, l2]
  | some x =>
    have hg : gx g0 N S k = if S.contains k = true then some (sealObj x) else some x := by
      unfold gx; rw [hb]; rfl
    have l1 : gx (gx g0 N S) n s k = if s.contains k = true then (gx g0 N S k).map sealObj else gx g0 N S k := by
      rw [gx]
      have : (gx g0 N S k).or (getO n k) = gx g0 N S k := by rw [hg]; split <;> rfl
      rw [this]
    have l2 : gx g0 N' S' k = if S'.contains k = true then some (sealObj x) else some x := by
      rw [gx, hN, ← Option.or_assoc, hb]; rfl
    rw [l1, l2, hg, e1]
    cases S.contains k <;> cases s.contains k <;> simp [sealObj_idem]
theorem denP1_d {o : List (Key × Ob)} {t : List AV} {p : PD} (h : denP1 call G o t c = some p) : c.dst = some p.d ∧ ∀ q ∈ p.new, q.1.1 = p.d := by
  unfold denP1 at h
  split at h
  · cases h
  · rename_i d hd
    simp only [Option.bind_eq_some_iff] at h
    obtain ⟨b, _, h⟩ := h
    cases b with
    | false => simp only [cond_false, Option.some.injEq] at h; subst h; exact ⟨hd, fun q hq => by cases hq⟩
    | true =>
      simp only [cond_true] at h
      split at h
      · simp only [Option.bind_eq_some_iff] at h
        obtain ⟨r, _, h⟩ := h
        split at h
        · rename_i hh
          cases h
          refine ⟨hd, fun q hq => ?_⟩
          simp only [Bool.and_eq_true] at hh
          simpa using List.all_eq_true.1 hh.2 q hq
        · cases h
      · cases h
theorem denP1_upd {o : List (Key × Ob)} {t : List AV} {p : PD} (h : denP1 call G o t c = some p) : p.upd = none := by
  unfold denP1 at h
  split at h
  · cases h
  · simp only [Option.bind_eq_some_iff] at h
    obtain ⟨b, _, h⟩ := h
    cases b with
    | false => simp only [cond_false, Option.some.injEq] at h; subst h; rfl
    | true =>
      simp only [cond_true] at h
      split at h
      · simp only [Option.bind_eq_some_iff] at h
        obtain ⟨r, _, h⟩ := h
        split at h
        · cases h; rfl
        · cases h
      · cases h
theorem denA_inv {acc : List (Key × Ob)} {lens : List (Key × Nat)} {t : List AV} {p : PD} (h : denA G acc lens t c = some p) : ∃ d h' str sz b x y, c.dst = some d ∧ c.op = .apd h' str sz b x y ∧ p.d = d ∧ p.new = [] ∧ p.seals = [] ∧
    ((wants t c.guard = some false ∧ p = ⟨d, .tup [], [], [], none⟩) ∨ (wants t c.guard = some true ∧ ∃ ys k es n mu shr, srcOf str sz (ev t G y) = some ys ∧ ev t G x = .asl k es ∧ getO acc k = some (.tail n sz mu shr) ∧ k.1 = h' ∧ (lenOf lens k).getD n = es.length ∧ (es.length + ys.length) * b ≤ 70368744177664 ∧ lenOk sz ys = true ∧ p = ⟨d, .asl k (es ++ ys), [], [], some (k, es.length + ys.length)⟩)) := by
  unfold denA at h
  split at h
  · rename_i d h' str sz b x y hd ho
    simp only [Option.bind_eq_some_iff] at h
    obtain ⟨w, hw, h⟩ := h
    cases w with
    | false =>
      simp only [cond_false, Option.some.injEq] at h
      subst h
      exact ⟨d, h', str, sz, b, x, y, hd, ho, rfl, rfl, rfl, .inl ⟨hw, rfl⟩⟩
    | true =>
      simp only [cond_true, Option.bind_eq_some_iff] at h
      obtain ⟨ys, hys, h⟩ := h
      split at h
      · rename_i k es hx
        split at h
        · rename_i n s mu shr hk
          split at h
          · rename_i hc
            obtain ⟨c1, c2, rfl, c4, c5⟩ := hc
            simp only [Option.some.injEq] at h
            subst h
            exact ⟨d, h', str, s, b, x, y, hd, ho, rfl, rfl, rfl, .inr ⟨hw, ys, k, es, n, mu, shr, hys, hx, hk, c1, c2, c4, c5, rfl⟩⟩
          · cases h
        · cases h
      · cases h
  · cases h
theorem denPA_d {o acc : List (Key × Ob)} {lens : List (Key × Nat)} {t : List AV} {p : PD} (h : denPA call G o acc lens t c = some p) : c.dst = some p.d ∧ ∀ q ∈ p.new, q.1.1 = p.d := by
  unfold denPA at h
  cases ha : isA c.op with
  | true =>
    rw [ha] at h
    obtain ⟨d, h', str, sz, b, x, y, h1, _, h2, h3, _⟩ := denA_inv h
    exact ⟨by rw [h1, h2], by rw [h3]; intro q hq; cases hq⟩
  | false => rw [ha] at h; exact denP1_d h
theorem selN_inv : ∀ {D : List PD} {L : Nat → Bool} {q : Key} {x : Ob}, getO (selN L D) q = some x → ∃ (j : Nat) (p : PD), D[j]? = some p ∧ L j = true ∧ (q, x) ∈ p.new
  | [], L, q, x, h => by simp [selN, getO] at h
  | p :: D, L, q, x, h => by
    simp only [selN] at h
    rw [getO_append] at h
    have go : getO (selN (fun j => L (j + 1)) D) q = some x → ∃ (j : Nat) (p' : PD), (p :: D)[j]? = some p' ∧ L j = true ∧ (q, x) ∈ p'.new := fun h => by
      obtain ⟨j, p', h1, h2, h3⟩ := selN_inv h
      exact ⟨j + 1, p', by simpa using h1, h2, h3⟩
    cases hL : L 0 with
    | false => rw [hL] at h; simp only [cond_false, getO, Option.none_or] at h; exact go h
    | true =>
      rw [hL] at h
      simp only [cond_true] at h
      cases hn : getO p.new q with
      | none => rw [hn, Option.none_or] at h; exact go h
      | some y =>
        rw [hn, Option.some_or, Option.some.injEq] at h
        subst h
        exact ⟨0, p, rfl, hL, getO_mem hn⟩
theorem selL_inv : ∀ {D : List PD} {L : Nat → Bool} {q : Key} {n : Nat}, lenOf (selL L D []) q = some n → ∃ (j : Nat) (p : PD) (n' : Nat), D[j]? = some p ∧ L j = true ∧ p.upd = some (q, n') := by
  intro D L q n h
  refine Classical.byContradiction fun hc => ?_
  have : lenOf (selL L D []) q = lenOf (selL (fun _ => false) D []) q := selL_agree rfl fun j p n' hj hu => by
    cases hl : L j with
    | false => rfl
    | true => exact absurd ⟨j, p, n', hj, hl, hu⟩ hc
  rw [this, selL_none fun _ => rfl] at h
  cases h
theorem denPA_fresh {o acc : List (Key × Ob)} {lens : List (Key × Nat)} {t : List AV} {p : PD} (h : denPA call G o acc lens t c = some p) : ∀ q x, (q, x) ∈ p.new → getO o q = none := by
  unfold denPA at h
  cases ha : isA c.op with
  | true =>
    rw [ha] at h
    obtain ⟨d, h', str, sz, b, x, y, _, _, _, h3, _⟩ := denA_inv h
    rw [h3]; intro q x hq; cases hq
  | false =>
    rw [ha] at h
    simp only [cond_false] at h
    unfold denP1 at h
    split at h
    · cases h
    · simp only [Option.bind_eq_some_iff] at h
      obtain ⟨b, _, h⟩ := h
      cases b with
      | false => simp only [cond_false, Option.some.injEq] at h; subst h; intro q x hq; cases hq
      | true =>
        simp only [cond_true] at h
        split at h
        · simp only [Option.bind_eq_some_iff] at h
          obtain ⟨r, _, h⟩ := h
          split at h
          · rename_i hh
            simp only [Bool.and_eq_true] at hh
            cases h
            exact fun q x hq => (fresh_of hh.1 q x hq).1
          · cases h
        · cases h
def lenG (U : Key → Option Nat) (g : Key → Option Ob) : Key → Option Ob := fun q => match U q with
  | some n => (g q).map (setLen n)
  | none => g q
theorem setLen_seal (n : Nat) (x : Ob) : sealObj (setLen n x) = setLen n (sealObj x) := by cases x <;> rfl
theorem lenG_some {U : Key → Option Nat} {g : Key → Option Ob} {q : Key} : (lenG U g q).isSome = (g q).isSome := by
  unfold lenG
  split <;> simp
theorem lenG_gx {U : Key → Option Nat} {g : Key → Option Ob} {n : List (Key × Ob)} {s : List Key} (h : ∀ q, (getO n q).isSome → U q = none) : gx (lenG U g) n s = lenG U (gx g n s) := by
  funext q
  cases hu : U q with
  | none => simp only [lenG, hu, gx]
  | some m =>
    have hn : getO n q = none := by
      cases hx : getO n q with
      | none => rfl
      | some x => have := h q (by rw [hx]; rfl); rw [hu] at this; cases this
    simp only [lenG, hu, gx, hn, Option.or_none]
    cases g q with
    | none => split <;> rfl
    | some x => split <;> simp [setLen_seal]
theorem getO_setLens (o : List (Key × Ob)) : ∀ l : List (Key × Nat), getO (setLens o l) = lenG (lenOf l) (getO o)
  | [] => rfl
  | p :: l => by
    funext q
    have one : ∀ (o' : List (Key × Ob)), getO (setLenO o' p.1 p.2) q = if q = p.1 then (getO o' q).map (setLen p.2) else getO o' q := by
      intro o'
      induction o' with
      | nil => simp [setLenO, getO]
      | cons x o' ih =>
        simp only [setLenO, List.map_cons, getO] at ih ⊢
        by_cases hx : x.1 = q
        · rw [if_pos hx, if_pos hx]
          by_cases hq : q = p.1
          · rw [if_pos hq, if_pos (hx.trans hq)]; rfl
          · rw [if_neg hq, if_neg (fun e => hq (hx.symm.trans e))]
        · rw [if_neg hx, if_neg hx]
          exact ih
    simp only [setLens]
    rw [one, getO_setLens o l]
    simp only [lenG, lenOf]
    by_cases hq : q = p.1
    · subst hq
      simp only [if_true]
      cases lenOf l p.1 with
      | none => rfl
      | some m =>
        simp only [Option.map_map]
        cases getO o p.1 with
        | none => rfl
        | some x => cases x <;> rfl
    · rw [if_neg hq, if_neg fun e => hq e.symm]
structure FromA (P : Program) (ow : Nat → Bool) (ops : Array Oper) (c : CO) (o : Oper) : Prop where
  op : ∃ h str sz b x y, c.op = .apd h str sz b x y ∧ cOp P ow o = some (.app str sz b x y)
  guard : gslot ops o.guard = some c.guard
  dst : c.dst = o.dst
theorem apd_get {l : List CO} {ms : List Nat} {m : Nat} (h : apdOk l ms m = true) {j : Nat} {c : CO} {hd : Nat} (hj : j < m) (hc : l[j]? = some c) (ho : apdH c.op = some hd) :
    (∃ (i : Nat) (c' : CO), i < j ∧ l[i]? = some c' ∧ c'.dst = some hd ∧ (ms.getD j 0).testBit i = true) ∧ ∀ (i : Nat) (c' : CO), i < j → l[i]? = some c' → apdH c'.op = some hd → (ms.getD j 0).testBit i = true := by
  unfold apdOk at h
  have h1 := List.all_eq_true.1 h j (List.mem_range.2 hj)
  simp only [hc, Option.bind_some, ho, Bool.and_eq_true, List.any_eq_true, List.all_eq_true, List.mem_range] at h1
  obtain ⟨⟨i, hi, h2⟩, h3⟩ := h1
  refine ⟨?_, fun i c' hi hc' ho' => ?_⟩
  · cases hl : l[i]? with
    | none => rw [hl] at h2; simp at h2
    | some c' =>
      rw [hl] at h2
      simp only [Bool.and_eq_true, beq_iff_eq] at h2
      exact ⟨i, c', hi, hl, h2.1, h2.2⟩
  · have := h3 i hi
    rw [hc'] at this
    simp only [Option.bind_some, ho', Bool.or_eq_true, bne_self_eq_false, Bool.false_eq_true, false_or] at this
    exact this
theorem pre_sound (hcall : CallOk2 P G call) (hback : backOk ops = true) {m : Nat} (hbar : barred (masks ops.toList []) m = true) {l l0 : List CO} (hl : l.length = ops.size) (hl0 : l0.length = ops.size) (hF : ∀ (n : Nat) (c : CO), l[n]? = some c → ∃ o, ops[n]? = some o ∧ (isA c.op = false → From P ow ops c o) ∧ (isA c.op = true → FromA P ow ops c o))
    (hF0 : ∀ (n : Nat) (c : CO), l0[n]? = some c → ∃ o, ops[n]? = some o ∧ From P ow ops c o)
    (hpre : preOk l (masks ops.toList []) m = true) (hapd : apdOk l (masks ops.toList []) m = true) {D : List PD} (hD : denPs call G σ.o (l.take m) σ.t [] [] = some D) (hd : denOs call G (l0.drop m) (σ.pds D) = some σ')
    (hQ : ∀ a' w' μ', Inv G w0 S0 σ'.t (getO σ'.o) μ' a' w' → Q .normal a' w') : ∀ (fuel : Nat) (listed : Array Bool) (μ : Key → Option (Nat × Nat)) (a : Act) (w : World), unl (lst listed) ops.size = fuel → listed.size = ops.size →
    (∀ k, m ≤ k → lst listed k = false) → Closed ops (lst listed) → (∀ k ∈ selS (lst listed) D, (gx (getO σ.o) (selN (lst listed) D) (selS (lst listed) D) k).isSome) →
    Inv G w0 S0 (selT (lst listed) D σ.t) (lenG (lenOf (selL (lst listed) D [])) (gx (getO σ.o) (selN (lst listed) D) (selS (lst listed) D))) μ a w → wpAny P .any ops Q fuel listed a w := by
  obtain ⟨hm, hpg⟩ := pre_get hpre
  obtain ⟨hDl, hDg⟩ := denPs_get hD
  have hDl : D.length = m := by rw [hDl, List.length_take]; omega
  have hDc : ∀ (j : Nat) (p : PD), D[j]? = some p → j < m ∧ ∃ c, l[j]? = some c ∧ c.dst = some p.d ∧ (∀ q ∈ p.new, q.1.1 = p.d) ∧ denPA call G σ.o (selN (fun k => decide (k < j)) D) (selL (fun k => decide (k < j)) D []) (selT (fun k => decide (k < j)) D σ.t) c = some p := by
    intro j p hj
    have hjm : j < m := by rw [← hDl]; exact (List.getElem?_eq_some_iff.1 hj).1
    have hjl : j < l.length := by omega
    have hc : (l.take m)[j]? = some l[j] := by rw [List.getElem?_take_of_lt hjm]; exact List.getElem?_eq_getElem hjl
    obtain ⟨p', hp', h1⟩ := hDg j _ hc
    rw [hj] at hp'
    cases hp'
    exact ⟨hjm, _, List.getElem?_eq_getElem hjl, (denPA_d h1).1, (denPA_d h1).2, by simpa using h1⟩
  have hdis : ∀ (j j' : Nat) (p p' : PD), D[j]? = some p → D[j']? = some p' → p'.d = p.d → j' = j := by
    intro j j' p p' hj hj' he
    obtain ⟨h1, c, h2, h3, _⟩ := hDc j p hj
    obtain ⟨h1', c', h2', h3', _⟩ := hDc j' p' hj'
    by_cases hne : j' = j
    · exact hne
    · obtain ⟨cj, d, h4, h5, h6, _⟩ := hpg j j' c' h1 h1' hne h2'
      rw [h2] at h4
      cases h4
      rw [h3] at h5
      cases h5
      rw [h3', he] at h6
      exact absurd rfl h6
  have hnk : ∀ (j : Nat) (p : PD), D[j]? = some p → ∀ q ∈ p.new, q.1.1 = p.d := fun j p hj => by
    obtain ⟨_, _, _, _, h, _⟩ := hDc j p hj
    exact h
  intro fuel
  induction fuel with
  | zero =>
    intro listed μ a w hu hs hge hcl hsd hI
    have hall := unl_zero hu
    have hmn : ops.size = m := by
      by_cases h : ops.size ≤ m
      · omega
      · have := hge m (Nat.le_refl _)
        rw [hall m (by omega)] at this
        cases this
    obtain ⟨e1, e2, e3⟩ := sel_all (D := D) (L := lst listed) (t := σ.t) fun j hj => hall j (by omega)
    rw [e1, e2, e3, ← getO_app, selL_all (fun j hj => hall j (by omega)), ← getO_setLens] at hI
    exact suf_sound hcall hback hbar hl0 hF0 hQ 0 m listed (σ.pds D) μ a w (Nat.le_refl _) (by omega) hs (fun k hk => by rw [hall k hk]; simp; omega) hd hI
  | succ fuel ih =>
    intro listed μ a w hu hs hge hcl hsd hI
    by_cases hall : ∀ k, k < m → lst listed k = true
    · obtain ⟨e1, e2, e3⟩ := sel_all (D := D) (L := lst listed) (t := σ.t) fun j hj => hall j (by omega)
      rw [e1, e2, e3, ← getO_app, selL_all (fun j hj => hall j (by omega)), ← getO_setLens] at hI
      have hcut : ∀ k, k < ops.size → lst listed k = decide (k < m) := fun k hk => by
        by_cases h : k < m
        · rw [hall k h]; simp [h]
        · rw [hge k (by omega)]; simp [h]
      have := unl_cut (L := lst listed) (m := m) (n := ops.size) (by omega) hcut
      exact suf_sound hcall hback hbar hl0 hF0 hQ (fuel + 1) m listed (σ.pds D) μ a w (Nat.le_refl _) (by omega) hs hcut hd hI
    · 
      have hex : ∃ k, k < m ∧ lst listed k = false := by
        rw [Classical.not_forall] at hall
        obtain ⟨k, hk⟩ := hall
        rw [Classical.not_imp] at hk
        exact ⟨k, hk.1, by simpa using hk.2⟩
      have least : ∀ n k, k < n → k < m → lst listed k = false → ∃ k, k < m ∧ lst listed k = false ∧ ∀ k', k' < k → lst listed k' = true := by
        intro n
        induction n with
        | zero => intro k h; omega
        | succ n ihn =>
          intro k hk hkm hkl
          by_cases h : ∃ k', k' < k ∧ lst listed k' = false
          · obtain ⟨k', h1, h2⟩ := h
            exact ihn k' (by omega) (by omega) h2
          · refine ⟨k, hkm, hkl, fun k' hk' => ?_⟩
            cases hl' : lst listed k' with
            | true => rfl
            | false => exact absurd ⟨k', hk', hl'⟩ h
      obtain ⟨k0, hk0, hk1⟩ := hex
      obtain ⟨i0, hi0, hi1, hi2⟩ := least (k0 + 1) k0 (by omega) hk0 hk1
      have hi0s : i0 < ops.size := by omega
      have hmem : i0 ∈ Region.ready .any ops listed := (ready_iff hs).2 ⟨_, Array.getElem?_eq_getElem hi0s, hi1, fun e he hb => hi2 _ (back_get hback (Array.getElem?_eq_getElem hi0s) e he hb)⟩
      refine ⟨fun h => absurd (h ▸ hmem) (by simp), fun k hk => ?_⟩
      obtain ⟨o, hko, h1, h2⟩ := (ready_iff hs).1 hk
      have hks := (Array.getElem?_eq_some_iff.1 hko).1
      have hms : ∀ b, ((masks ops.toList []).getD k 0).testBit b = true → lst listed b = true := masks_sound hcl (k + 1) k (by omega) o hko h2
      have hkm : k < m := by
        by_cases h : k < m
        · exact h
        · have := hms i0 (barred_get hbar hks (by omega) (by omega))
          rw [hi1] at this; cases this
      have hkD : k < D.length := by omega
      have hp : D[k]? = some D[k] := List.getElem?_eq_getElem hkD
      generalize D[k] = p at hp
      obtain ⟨_, c, hc, hcd, hpk, hden⟩ := hDc k p hp
      obtain ⟨o', ho', hfromX, hfromA⟩ := hF k c hc
      rw [hko] at ho'
      cases ho'
      have hagree : Agree (selT (fun j => decide (j < k)) D σ.t) (selT (lst listed) D σ.t) (usesO c) := by
        intro s hsu
        rw [List.getD_eq_getElem?_getD, List.getD_eq_getElem?_getD]
        congr 1
        by_cases hw : ∃ j q, D[j]? = some q ∧ q.d = s ∧ j ≠ k
        · obtain ⟨j, q, hj, rfl, hjk⟩ := hw
          obtain ⟨hjm, cj, hcj, hcjd, _⟩ := hDc j q hj
          obtain ⟨cj', d', h4, h5, h6, h7⟩ := hpg j k c hjm hkm (fun h => hjk h.symm) hc
          rw [hcj] at h4
          cases h4
          rw [hcjd] at h5
          cases h5
          obtain ⟨h8, h9⟩ := h7 hsu
          rw [selT_of (j := j) hj (by simpa using h8) (fun j' p' hj' he => hdis j j' q p' hj hj' he), selT_of (j := j) hj (hms j h9) (fun j' p' hj' he => hdis j j' q p' hj hj' he)]
        · have no : ∀ (j : Nat) (q : PD), D[j]? = some q → j ≠ k → q.d ≠ s := fun j q hj hjk he => hw ⟨j, q, hj, he, hjk⟩
          rw [selT_not fun j q hj hl' => no j q hj (fun he => by subst he; simp at hl'), selT_not fun j q hj hl' => no j q hj (fun he => by subst he; rw [h1] at hl'; cases hl')]
      have hL' : lst (listed.setIfInBounds k true) = fun j => lst listed j || decide (j = k) := funext fun j => lst_set (by omega) j
      have hu' : unl (lst (listed.setIfInBounds k true)) ops.size = fuel := by
        have := unl_set h1 (n := ops.size) hks
        rw [hL']
        omega
      have hge' : ∀ j, m ≤ j → lst (listed.setIfInBounds k true) j = false := fun j hj => by
        rw [hL']
        show (lst listed j || decide (j = k)) = false
        rw [hge j hj]
        have : ¬ j = k := by omega
        simp [this]
      have hcl' : Closed ops (lst (listed.setIfInBounds k true)) := by
        intro j oj hj hoj e he hb
        rw [hL'] at hj ⊢
        simp only [Bool.or_eq_true, decide_eq_true_eq] at hj ⊢
        rcases hj with hj | rfl
        · exact .inl (hcl j oj hj hoj e he hb)
        · rw [hko] at hoj
          cases hoj
          exact .inl (h2 e he hb)
      have hT : selT (lst (listed.setIfInBounds k true)) D σ.t = (selT (lst listed) D σ.t).set p.d p.v := by
        apply List.ext_getElem?
        intro s
        rw [List.getElem?_set]
        by_cases hs' : p.d = s
        · subst hs'
          rw [selT_of (j := k) hp (by rw [hL']; simp) (fun j' p' hj' he => hdis k j' p p' hp hj' he), if_pos rfl, selT_len]
          by_cases hlt : p.d < σ.t.length
          · simp [hlt]
          · simp [hlt]
        · rw [if_neg hs']
          by_cases hw : ∃ j q, D[j]? = some q ∧ q.d = s ∧ lst listed j = true
          · obtain ⟨j, q, hj, rfl, hjl⟩ := hw
            rw [selT_of (j := j) hj hjl (fun j' p' hj' he => hdis j j' q p' hj hj' he), selT_of (j := j) hj (by rw [hL']; simp [hjl]) (fun j' p' hj' he => hdis j j' q p' hj hj' he)]
          · rw [selT_not fun j q hj hl' he => hw ⟨j, q, hj, he, hl'⟩, selT_not fun j q hj hl' he => ?_]
            rw [hL'] at hl'
            simp only [Bool.or_eq_true, decide_eq_true_eq] at hl'
            rcases hl' with hl' | rfl
            · exact hw ⟨j, q, hj, he, hl'⟩
            · rw [hp] at hj; cases hj; exact hs' he
      have hSm : ∀ q, q ∈ selS (lst (listed.setIfInBounds k true)) D ↔ q ∈ selS (lst listed) D ∨ q ∈ p.seals := by
        intro q
        rw [selS_mem, selS_mem, hL']
        constructor
        · rintro ⟨j, p', hj, hl', hq⟩
          simp only [Bool.or_eq_true, decide_eq_true_eq] at hl'
          rcases hl' with hl' | rfl
          · exact .inl ⟨j, p', hj, hl', hq⟩
          · rw [hp] at hj; cases hj; exact .inr hq
        · rintro (⟨j, p', hj, hl', hq⟩ | hq)
          · exact ⟨j, p', hj, by simp [hl'], hq⟩
          · exact ⟨k, p, hp, by simp, hq⟩
      have hNk : ∀ q : Key, q.1 = p.d → getO (selN (lst listed) D) q = none := fun q hq => selN_not hnk fun j p' hj hl' he => by
        have := hdis k j p p' hp hj (he.trans hq)
        subst this
        rw [h1] at hl'; cases hl'
      have hNm : ∀ q, getO (selN (lst (listed.setIfInBounds k true)) D) q = (getO (selN (lst listed) D) q).or (getO p.new q) := by
        intro q
        by_cases hq : q.1 = p.d
        · rw [selN_of (j := k) hnk hp (by rw [hL']; simp) (fun j' p' hj' he => hdis k j' p p' hp hj' he) hq, hNk q hq, Option.none_or]
        · have hn0 : getO p.new q = none := getO_none fun x hx => hq (hpk _ hx)
          rw [hn0, Option.or_none]
          by_cases hw : ∃ j q', D[j]? = some q' ∧ q'.d = q.1 ∧ lst listed j = true
          · obtain ⟨j, q', hj, he, hjl⟩ := hw
            rw [selN_of (j := j) hnk hj hjl (fun j' p' hj' he => hdis j j' q' p' hj hj' he) he.symm, selN_of (j := j) hnk hj (by rw [hL']; simp [hjl]) (fun j' p' hj' he => hdis j j' q' p' hj hj' he) he.symm]
          · rw [selN_not hnk fun j q' hj hl' he => hw ⟨j, q', hj, he, hl'⟩, selN_not hnk fun j q' hj hl' he => ?_]
            rw [hL'] at hl'
            simp only [Bool.or_eq_true, decide_eq_true_eq] at hl'
            rcases hl' with hl' | rfl
            · exact hw ⟨j, q', hj, he, hl'⟩
            · rw [hp] at hj; cases hj; exact hq he.symm
      have hmsj : ∀ (j b : Nat), j < ops.size → lst listed j = true → ((masks ops.toList []).getD j 0).testBit b = true → lst listed b = true := fun j b hj hl' hb => masks_sound hcl (j + 1) j (by omega) ops[j] (Array.getElem?_eq_getElem hj) (fun e he hb => hcl j ops[j] hl' (Array.getElem?_eq_getElem hj) e he hb) b hb
      have hupd : ∀ (j : Nat) (q : PD) (key : Key) (n : Nat), D[j]? = some q → q.upd = some (key, n) → j < m ∧ ∃ cj, l[j]? = some cj ∧ apdH cj.op = some key.1 ∧ getO σ.o key = none := by
        intro j q key n hj hu
        obtain ⟨hjm, cj, hcj, _, _, hdn⟩ := hDc j q hj
        refine ⟨hjm, cj, hcj, ?_⟩
        unfold denPA at hdn
        cases ha : isA cj.op with
        | false => rw [ha] at hdn; rw [denP1_upd hdn] at hu; cases hu
        | true =>
          rw [ha] at hdn
          obtain ⟨d, h', str, sz, b, x, y, e1, e2, e3, e4, e5, e6⟩ := denA_inv hdn
          rcases e6 with ⟨_, e6⟩ | ⟨_, ys, k', es, n', mu, shr, _, _, f3, f4, _, _, _, e6⟩
          · rw [e6] at hu; cases hu
          · rw [e6] at hu
            cases hu
            refine ⟨by rw [e2, f4]; rfl, ?_⟩
            obtain ⟨j0, p0, g1, g2, g3⟩ := selN_inv f3
            obtain ⟨_, c0, h2, _, _, h5⟩ := hDc j0 p0 g1
            exact denPA_fresh h5 _ _ g3
      have hU0 : ∀ (q : Key) (n : Nat), lenOf (selL (lst listed) D []) q = some n → ∃ (j : Nat) (p' : PD) (n' : Nat), D[j]? = some p' ∧ lst listed j = true ∧ p'.upd = some (q, n') := fun q n h => selL_inv h
      have hUo : ∀ (q : Key) (x : Ob), getO σ.o q = some x → lenOf (selL (lst listed) D []) q = none := by
        intro q x hx
        cases hu : lenOf (selL (lst listed) D []) q with
        | none => rfl
        | some n =>
          obtain ⟨j, p', n', h3, _, h5⟩ := hU0 q n hu
          obtain ⟨_, _, _, _, h6⟩ := hupd j p' q n' h3 h5
          rw [hx] at h6; cases h6
      have hUp : ∀ q : Key, q.1 = p.d → lenOf (selL (lst listed) D []) q = none := by
        intro q hq
        cases hu : lenOf (selL (lst listed) D []) q with
        | none => rfl
        | some n =>
          obtain ⟨j, p', n', h3, h4, h5⟩ := hU0 q n hu
          obtain ⟨hjm, cj, h6, h7, _⟩ := hupd j p' q n' h3 h5
          obtain ⟨⟨i, ci, i1, i2, i3, i4⟩, _⟩ := apd_get hapd hjm h6 h7
          have hil : lst listed i = true := hmsj j i (by omega) h4 i4
          obtain ⟨pi, hpi⟩ : ∃ pi, D[i]? = some pi := ⟨_, List.getElem?_eq_getElem (by omega)⟩
          obtain ⟨_, ci', j1, j2, _⟩ := hDc i pi hpi
          rw [i2] at j1
          cases j1
          rw [i3] at j2
          have : i = k := hdis k i p pi hp hpi ((Option.some.inj j2).symm.trans hq)
          subst this
          rw [h1] at hil; cases hil
      have fin : p.upd = none → ∀ (a' : Act) (w' : World) (μ' : Key → Option (Nat × Nat)), Inv G w0 S0 ((selT (lst listed) D σ.t).set p.d p.v) (gx (lenG (lenOf (selL (lst listed) D [])) (gx (getO σ.o) (selN (lst listed) D) (selS (lst listed) D))) p.new p.seals) μ' a' w' →
          (∀ q ∈ p.seals, (gx (getO σ.o) (selN (lst listed) D) (selS (lst listed) D) q).isSome) → (∀ q, (getO p.new q).isSome → gx (getO σ.o) (selN (lst listed) D) (selS (lst listed) D) q = none) → wpAny P .any ops Q fuel (listed.setIfInBounds k true) a' w' := by
        intro hpu a' w' μ' hI' hsl hfr
        have hgx := gx_step (g0 := getO σ.o) (N := selN (lst listed) D) (S := selS (lst listed) D) hsd hsl hfr hNm hSm
        have hUU : lenOf (selL (lst (listed.setIfInBounds k true)) D []) = lenOf (selL (lst listed) D []) := by
          funext q
          refine selL_agree rfl fun j p' n hj hu => ?_
          rw [hL']
          have : ¬ j = k := by
            rintro rfl
            rw [hp] at hj
            cases hj
            rw [hpu] at hu; cases hu
          simp [this]
        rw [lenG_gx (fun q hq => hUp q (by
          obtain ⟨x, hx⟩ := Option.isSome_iff_exists.1 hq
          exact hpk _ (getO_mem hx))), hgx, ← hT, ← hUU] at hI'
        refine ih _ μ' a' w' hu' (by simpa using hs) hge' hcl' (fun q hq => ?_) hI'
        rw [← hgx]
        rcases (hSm q).1 hq with hq | hq
        · have := hsd q hq
          unfold gx at this ⊢
          revert this
          split <;> split <;> simp <;> (try (intro h; cases h <;> simp [*]))
        · have := hsl q hq
          unfold gx at this ⊢
          revert this
          split <;> split <;> simp <;> (try (intro h; cases h <;> simp [*]))
      have nil_gx : ∀ g : Key → Option Ob, gx g [] [] = g := fun g => by
        funext q
        rw [gx]
        simp [getO]
      unfold denPA at hden
      cases ha : isA c.op with
      | false =>
        rw [ha] at hden
        simp only [cond_false] at hden
        have hpu := denP1_upd hden
        rw [denP1_congr hagree] at hden
        have hfrom := hfromX ha
        unfold denP1 at hden
        rw [hcd] at hden
        simp only [Option.bind_eq_some_iff] at hden
        obtain ⟨b, hw, hden⟩ := hden
        cases b with
        | false =>
          simp only [cond_false, Option.some.injEq] at hden
          refine step_skip hI hko hfrom.guard hw fun a' w' μ' hI' => fin hpu a' w' μ' ?_ ?_ ?_
          · rw [← hfrom.dst, hcd] at hI'
            rw [← hden, nil_gx]
            exact hI'
          · rw [← hden]; intro q hq; cases hq
          · rw [← hden]; intro q hq; cases hq
        | true =>
          simp only [cond_true] at hden
          split at hden
          · rename_i hx
            simp only [Option.bind_eq_some_iff] at hden
            obtain ⟨r, hr, hden⟩ := hden
            split at hden
            · rename_i hh
              simp only [Bool.and_eq_true] at hh
              have hpe : p = ⟨p.d, r.x, r.new, r.seals, none⟩ := (Option.some.inj hden).symm
              have hfr0 := fresh_of hh.1
              have hrn : r.new = p.new := by rw [hpe]
              have hrs : r.seals = p.seals := by rw [hpe]
              have hrx : r.x = p.v := by rw [hpe]
              have hgn : ∀ q x, (q, x) ∈ r.new → gx (getO σ.o) (selN (lst listed) D) (selS (lst listed) D) q = none := by
                intro q x hq
                have e1 := (hfr0 q x hq).1
                have e2 := hNk q (hpk _ (hrn ▸ hq))
                unfold gx
                rw [e1, e2]
                split <;> rfl
              refine step_x hcall hI (fun q x hq => ?_) hko (hfrom.x hr) hfrom.guard hw hx hr (fun q x hq => ⟨?_, (hfr0 q x hq).2⟩) fun a' w' μ' hI' hsl => fin hpu a' w' μ' ?_ ?_ ?_
              · obtain ⟨x', hx', hle⟩ := gx_le (g := getO σ.o) (selN (lst listed) D) (selS (lst listed) D) hq
                exact ⟨x', by unfold lenG; rw [hUo q x hq]; exact hx', hle⟩
              · have := hgn q x hq
                unfold lenG
                split
                · rw [this]; rfl
                · exact this
              · rw [← hfrom.dst, hcd] at hI'
                rw [hrn, hrs, hrx] at hI'
                exact hI'
              · intro q hq
                rw [← lenG_some (U := lenOf (selL (lst listed) D []))]
                exact hsl q (by rw [hrs]; exact hq)
              · intro q hq
                obtain ⟨x, hx'⟩ := Option.isSome_iff_exists.1 hq
                exact hgn q x (by rw [hrn]; exact getO_mem hx')
            · cases hden
          · cases hden
      | true =>
        rw [ha] at hden
        simp only [cond_true] at hden
        have hfrom := hfromA ha
        obtain ⟨h0, str, sz, b, x, y, hop, hcop⟩ := hfrom.op
        obtain ⟨d, h', str', sz', b', x', y', e1, e2, e3, e4, e5, e6⟩ := denA_inv hden
        rw [hop] at e2
        cases e2
        have hux : Agree (selT (fun j => decide (j < k)) D σ.t) (selT (lst listed) D σ.t) (xs1 x) := fun s hs => hagree s (by unfold usesO; rw [hop]; simp [usesOp, hs])
        have huy : Agree (selT (fun j => decide (j < k)) D σ.t) (selT (lst listed) D σ.t) (xs1 y) := fun s hs => hagree s (by unfold usesO; rw [hop]; simp [usesOp, hs])
        have hug : wants (selT (fun j => decide (j < k)) D σ.t) c.guard = wants (selT (lst listed) D σ.t) c.guard := wants_congr fun s hs => hagree s (by unfold usesO; exact List.mem_append_right _ hs)
        rcases e6 with ⟨hw, hpe⟩ | ⟨hw, ys, key, es, n, mu, shr, f1, f2, f3, f4, f5, f6, f7, hpe⟩
        · rw [hug] at hw
          refine step_skip hI hko hfrom.guard hw fun a' w' μ' hI' => fin (by rw [hpe]) a' w' μ' ?_ ?_ ?_
          · rw [← hfrom.dst, hcd] at hI'
            rw [hpe, nil_gx]
            rw [hpe] at hI'
            exact hI'
          · rw [hpe]; intro q hq; cases hq
          · rw [hpe]; intro q hq; cases hq
        · rw [hug] at hw
          rw [ev_congr (G := G) huy] at f1
          rw [ev_congr (G := G) hux] at f2
          subst f4
          have hjm : k < m := hkm
          have hhd : apdH c.op = some key.1 := by rw [hop]; rfl
          obtain ⟨⟨i, ci, i1, i2, i3, i4⟩, hbefore⟩ := apd_get hapd hjm hc hhd
          have hil : lst listed i = true := hms i i4
          obtain ⟨pi, hpi⟩ : ∃ pi, D[i]? = some pi := ⟨_, List.getElem?_eq_getElem (by omega)⟩
          have hpid : pi.d = key.1 := by
            obtain ⟨_, ci', j1, j2, _⟩ := hDc i pi hpi
            rw [i2] at j1
            cases j1
            rw [i3] at j2
            exact (Option.some.inj j2).symm
          have hnew : getO (selN (lst listed) D) key = some (.tail n sz mu shr) := by
            rw [← f3, selN_of (j := i) hnk hpi hil (fun j' p' hj' he => hdis i j' pi p' hpi hj' he) hpid.symm, selN_of (j := i) hnk hpi (by simpa using i1) (fun j' p' hj' he => hdis i j' pi p' hpi hj' he) hpid.symm]
          have hlens : lenOf (selL (lst listed) D []) key = lenOf (selL (fun j => decide (j < k)) D []) key := by
            refine selL_agree rfl fun j q n' hj hu => ?_
            obtain ⟨hjm', cj, h3, h4, _⟩ := hupd j q key n' hj hu
            by_cases hlt : j < k
            · rw [hms j (hbefore j cj hlt h3 h4)]; simp [hlt]
            · have hf : lst listed j = false := by
                by_cases he : j = k
                · rw [he]; exact h1
                · obtain ⟨_, hb2⟩ := apd_get hapd hjm' h3 h4
                  have := hb2 k c (by omega) hc hhd
                  cases hlj : lst listed j with
                  | false => rfl
                  | true => have := hmsj j k (by omega) hlj this; rw [h1] at this; cases this
              rw [hf]; simp [hlt]
          have ho0 : getO σ.o key = none := by
            have := hupd k p key (es.length + ys.length) hp (by rw [hpe])
            obtain ⟨_, _, _, _, h⟩ := this
            exact h
          obtain ⟨mu1, shr1, hin⟩ : ∃ mu1 shr1, gx (getO σ.o) (selN (lst listed) D) (selS (lst listed) D) key = some (.tail n sz mu1 shr1) := by
            unfold gx
            rw [ho0, hnew]
            split
            · exact ⟨_, _, rfl⟩
            · exact ⟨_, _, rfl⟩
          let oL := setLens (sealO (σ.o ++ selN (lst listed) D) (selS (lst listed) D)) (selL (lst listed) D [])
          have hoL : getO oL = lenG (lenOf (selL (lst listed) D [])) (gx (getO σ.o) (selN (lst listed) D) (selS (lst listed) D)) := by
            show getO (setLens _ _) = _
            rw [getO_setLens, getO_app]
          obtain ⟨mu2, hcur⟩ : ∃ mu2, getO oL key = some (.tail es.length sz mu2 shr1) := by
            rw [hoL]
            unfold lenG
            rw [hlens]
            cases hu : lenOf (selL (fun j => decide (j < k)) D []) key with
            | none =>
              rw [hu] at f5
              simp only [Option.getD_none] at f5
              rw [hin, f5]
              exact ⟨_, rfl⟩
            | some n' =>
              rw [hu] at f5
              simp only [Option.getD_some] at f5
              rw [hin, f5]
              exact ⟨_, rfl⟩
          have hIL : Inv G w0 S0 (⟨selT (lst listed) D σ.t, oL⟩ : St).t (getO (⟨selT (lst listed) D σ.t, oL⟩ : St).o) μ a w := by rw [show getO (⟨selT (lst listed) D σ.t, oL⟩ : St).o = getO oL from rfl, hoL]; exact hI
          have hden' : denM G ⟨selT (lst listed) D σ.t, oL⟩ o.dst (.app str sz b x y) = some { t := (selT (lst listed) D σ.t).set p.d (.asl key (es ++ ys)), o := setO oL key (.tail (es.length + ys.length) sz false shr1) } := by
            rw [← hfrom.dst, hcd]
            simp only [denM, f1, Option.bind_some, f2, hcur]
            simp [f6, f7]
          unfold wpOp
          simp only [hko, wants_ok hI hfrom.guard hw, if_true]
          left
          obtain ⟨nn, yy, w', k1, k2, μ', k3⟩ := M_sound hIL hcop rfl hden'
          have fin2 : ∀ a' : Act, Inv G w0 S0 ((selT (lst listed) D σ.t).set p.d (.asl key (es ++ ys))) (getO (setO oL key (.tail (es.length + ys.length) sz false shr1))) μ' a' w' → wpAny P .any ops Q fuel (listed.setIfInBounds k true) a' w' := by
            intro a' hI'
            have hS0 : p.seals = [] := e5
            have hN0 : p.new = [] := e4
            have hgx : gx (getO σ.o) (selN (lst (listed.setIfInBounds k true)) D) (selS (lst (listed.setIfInBounds k true)) D) = gx (getO σ.o) (selN (lst listed) D) (selS (lst listed) D) := by
              have := gx_step (g0 := getO σ.o) (N := selN (lst listed) D) (S := selS (lst listed) D) (n := []) (s := []) (N' := selN (lst (listed.setIfInBounds k true)) D) (S' := selS (lst (listed.setIfInBounds k true)) D) hsd (fun q hq => by cases hq) (fun q hq => by cases hq) (fun q => by rw [hNm, hN0]) (fun q => by rw [hSm, hS0])
              rw [nil_gx] at this
              exact this.symm
            have hG : getO (setO oL key (.tail (es.length + ys.length) sz false shr1)) = lenG (lenOf (selL (lst (listed.setIfInBounds k true)) D [])) (gx (getO σ.o) (selN (lst (listed.setIfInBounds k true)) D) (selS (lst (listed.setIfInBounds k true)) D)) := by
              rw [hgx]
              funext q
              rw [getO_setO]
              by_cases hq : key = q
              · subst hq
                rw [if_pos rfl]
                unfold lenG
                rw [selL_last (j := k) hp (by rw [hpe]) (by rw [hL']; simp) fun j' p' n' hlt hj' hu => ?_]
                · simp only [hin, Option.map_some, setLen]
                · rw [hL']
                  obtain ⟨hjm', cj, h3, h4, _⟩ := hupd j' p' key n' hj' hu
                  obtain ⟨_, hb2⟩ := apd_get hapd hjm' h3 h4
                  have hb := hb2 k c hlt hc hhd
                  have hne : ¬ j' = k := by omega
                  cases hlj : lst listed j' with
                  | false => simp [hlj, hne]
                  | true => have := hmsj j' k (by omega) hlj hb; rw [h1] at this; cases this
              · rw [if_neg hq, hoL]
                unfold lenG
                have : lenOf (selL (lst listed) D []) q = lenOf (selL (lst (listed.setIfInBounds k true)) D []) q := by
                  refine selL_agree rfl fun j p' n' hj hu => ?_
                  rw [hL']
                  have : ¬ j = k := by
                    rintro rfl
                    rw [hp] at hj
                    cases hj
                    rw [hpe] at hu
                    cases hu
                    exact hq rfl
                  simp [this]
                rw [this]
            rw [hG] at hI'
            have hT2 : (selT (lst listed) D σ.t).set p.d (.asl key (es ++ ys)) = selT (lst (listed.setIfInBounds k true)) D σ.t := by
              rw [hT]
              rw [hpe]
            rw [hT2] at hI'
            refine ih _ μ' a' w' hu' (by simpa using hs) hge' hcl' (fun q hq => ?_) hI'
            rw [hgx]
            rcases (hSm q).1 hq with hq | hq
            · exact hsd q hq
            · rw [hS0] at hq; cases hq
          unfold Oper.wp
          rw [k1]
          rcases k2 with rfl | ⟨rfl, rfl⟩
          · exact fin2 _ k3
          · exact fin2 _ k3
end
end Go.Proofs.YtmhdapjmndfkgaaGreatDoor.Eng
namespace Go.Proofs.YtmhdapjmndfkgaaGreatDoor.Eng
open Go Go.RowKit
def eraseK : CC → CC
  | .seq a b => .seq (eraseK a) (eraseK b)
  | .cond c a b => .cond c (eraseK a) (eraseK b)
  | .block id a => .block id (eraseK a)
  | .loop _ a => .loop [] (eraseK a)
  | x => x
def xe : XE → Exit
  | .normal => .normal
  | .exit i => .exit i
  | .ret => .ret
section
variable {P : Program} {G : Nat → AV} {w0 w w' : World} {S0 : Sb} {T : List AV} {g g' : Key → Option Ob} {μ μ' ν : Key → Option (Nat × Nat)} {a : Act} {o : Oper} {r : R} {call : Call} {g0 : Key → Option Ob} {d j : Nat} {op : COp} {ow : Nat → Bool} {f : AV → AV} {σ σ' : St}
  {ops : Array Oper} {Q : Exit → Act → World → Prop} {K : Act → World → Prop} {i : Nat} {c : CO}
theorem Inv.drew (hI : Inv G w0 S0 T g μ a w) : Inv G w0 S0 T g μ a w.drew := by
  refine hI.ext ⟨hI.below.size, (Below.refl _ _).drew, fun k x h => ⟨x, h, .refl x⟩, fun k _ => rfl, fun k b base h hg => ?_, hI.pl⟩ hI.inj fun k x h1 h2 => ?_
  · have := (hI.pl k b base h).1; rw [hg] at this; cases this
  · rw [h1] at h2; cases h2
theorem reg_sound (hm : P.follows .mixedOrders = true) (hcall : CallOk2 P G call) {draw : Bool} {id : Nat} {pre suf : List CO} (hc : cReg P ow ops draw = some (.reg pre suf)) {D : List PD} (hD : denPs call G σ.o pre σ.t [] [] = some D) (hd : denOs call G suf (σ.pds D) = some σ')
    (hI : Inv G w0 S0 σ.t (getO σ.o) μ a w) (hQ : ∀ a' w' μ', Inv G w0 S0 σ'.t (getO σ'.o) μ' a' w' → Q .normal a' w') : (Code.region id ops draw).wp P Q a w := by
  unfold cReg at hc
  simp only [Option.bind_eq_some_iff] at hc
  obtain ⟨l, hl, hc⟩ := hc
  obtain ⟨h1, h2⟩ := cOs_from hl
  have h1 : l.length = ops.size := by rw [h1, Array.length_toList]
  have h2 : ∀ (n : Nat) (c : CO), l[n]? = some c → ∃ o, ops[n]? = some o ∧ From P ow ops c o := fun n c hn => by
    obtain ⟨o, ho, hF⟩ := h2 n c hn
    exact ⟨o, by rw [← Array.getElem?_toList]; exact ho, hF⟩
  cases draw with
  | false =>
    simp only [cond_false, Option.some.injEq, CC.reg.injEq] at hc
    obtain ⟨rfl, rfl⟩ := hc
    simp only [denPs, Option.some.injEq] at hD
    subst hD
    have hs : σ.pds [] = σ := by simp [St.pds, sealO, lensOf, setLens]
    rw [hs] at hd
    refine wp_region ?_
    rw [List.range_eq_range', ← h1]
    exact Os_sound hcall l 0 σ μ a w (fun n c hn => by rw [Nat.zero_add]; exact h2 n c hn) hd hI hQ
  | true =>
    simp only [cond_true] at hc
    split at hc
    · rename_i hh
      simp only [Bool.and_eq_true] at hh
      obtain ⟨⟨⟨hp, hb⟩, hbk⟩, hap⟩ := hh
      simp only [Option.some.injEq, CC.reg.injEq] at hc
      obtain ⟨rfl, rfl⟩ := hc
      refine wp_region_any hm ?_
      have hls : lst (Array.replicate ops.size false) = fun _ => false := by
        funext k
        simp only [lst, Array.getD_eq_getD_getElem?, Array.getElem?_replicate]
        split <;> rfl
      obtain ⟨e1, e2, e3⟩ := sel_none (D := D) (L := fun _ => false) (t := σ.t) (fun _ => rfl)
      have h3 : ∀ (n : Nat) (c : CO), (l.map (apdOf l))[n]? = some c → ∃ o, ops[n]? = some o ∧ (isA c.op = false → From P ow ops c o) ∧ (isA c.op = true → FromA P ow ops c o) := by
        intro n c hn
        rw [List.getElem?_map, Option.map_eq_some_iff] at hn
        obtain ⟨c0, hc0, rfl⟩ := hn
        obtain ⟨o, ho, hF⟩ := h2 n c0 hc0
        refine ⟨o, ho, ?_⟩
        have hna : isA c0.op = false := by
          rcases hF.op with h | h
          · exact cOp_notA h
          · rw [h]; rfl
        unfold apdOf
        split
        · rename_i str sz b s y hop
          refine ⟨fun h => (by cases h), fun _ => ⟨⟨_, _, _, _, _, _, rfl, ?_⟩, hF.guard, hF.dst⟩⟩
          rcases hF.op with h | h
          · rw [h, hop]
          · rw [hop] at h; cases h
        · exact ⟨fun _ => hF, fun h => (by rw [hna] at h; cases h)⟩
      refine pre_sound hcall hbk hb (by rw [List.length_map]; exact h1) h1 h3 h2 hp hap hD hd hQ ops.size _ μ a w.drew ?_ (by simp) (fun k _ => by rw [hls]) ?_ ?_ ?_
      · rw [hls]
        have := unl_cut (L := fun _ => false) (m := 0) (n := ops.size) (Nat.zero_le _) (fun k _ => by simp)
        simpa using this
      · rw [hls]; intro i o h; cases h
      · rw [hls, e3]; intro k hk; cases hk
      · rw [hls, e1, e2, e3, selL_none (fun _ => rfl)]
        have : gx (getO σ.o) [] [] = getO σ.o := by funext k; simp [gx, getO]
        rw [this]
        exact hI.drew
    · cases hc
def maskOb (keep : List Nat) : Ob → Ob
  | .var cs s => .var (cs.map fun c => if ok1 keep c then c else .undef) s
  | x => x
theorem maskO_get (keep : List Nat) : ∀ (o : List (Key × Ob)) (k : Key), getO (maskO keep o) k = if inK keep k.1 = true then (getO o k).map (maskOb keep) else none
  | [], k => by simp [maskO, getO]
  | (k0, x) :: o, k => by
    have ih := maskO_get keep o k
    simp only [maskO]
    by_cases h : inK keep k0.1 = true
    · rw [if_pos h]
      simp only [getO]
      by_cases he : k0 = k
      · subst he
        rw [if_pos rfl, if_pos rfl, if_pos h]
        cases x <;> rfl
      · rw [if_neg he, if_neg he, ih]
    · rw [if_neg h, ih]
      simp only [getO]
      by_cases he : k0 = k
      · subst he; rw [if_neg h, if_neg h]
      · rw [if_neg he]
theorem maskT_get (keep : List Nat) : ∀ (t : List AV) (i n : Nat), (maskT keep i t).length = t.length ∧ (maskT keep i t)[n]? = (t[n]?).map fun x => if (keep.contains (i + n) && okT keep x) = true then x else .undef
  | [], i, n => ⟨rfl, by simp [maskT]⟩
  | x :: t, i, n => by
    refine ⟨by simp [maskT, (maskT_get keep t (i + 1) 0).1], ?_⟩
    cases n with
    | zero => simp [maskT]
    | succ n =>
      simp only [maskT, List.getElem?_cons_succ]
      rw [(maskT_get keep t (i + 1) n).2]
      rw [show i + 1 + n = i + (n + 1) by omega]
theorem mask_rep1 {keep : List Nat} {C C' : Ctx} (hw : C'.w = C.w) (hS : ∀ b i, C.S b i → C'.S b i) (hg : ∀ k : Key, inK keep k.1 = true → C'.g k = (C.g k).map (maskOb keep) ∧ C'.μ k = C.μ k) {c : AV} {x : Value} (hk : ok1 keep c = true) (h : LRep1 C c x) : LRep1 C' c x := by
  have F : ∀ {c : AV} {x : Value}, FRep C.w C.S c x → FRep C'.w C'.S c x := fun h => h.mono fun b i hs => ⟨hS b i hs, by rw [hw]⟩
  have own : ∀ {k : Key} {b i : Nat}, inK keep k.1 = true → Own C k b i → Own C' k b i := by
    rintro k b i hk ⟨base, len, sz, mu, shr, h1, h2, h3⟩
    obtain ⟨h4, h5⟩ := hg k hk
    exact ⟨base, len, sz, mu, shr, by rw [h5]; exact h1, by rw [h4, h2]; rfl, h3⟩
  cases c with
  | undef => trivial
  | nilsl => exact h
  | asl k es =>
    obtain ⟨len, sz, mu, shr, h1, h2, h3, h4, h5⟩ := h
    obtain ⟨h6, h7⟩ := hg k hk
    refine ⟨len, sz, mu, shr, by rw [h6, h1]; rfl, h2, h3, h4, ?_⟩
    rcases h5 with ⟨h5, h8, h9⟩ | ⟨b, o, cap, X, h5, hcap, h8, h9⟩
    · exact .inl ⟨h5, h8, fun h => by rw [h7]; exact h9 h⟩
    · refine .inr ⟨b, o, cap, X, h5, hcap, fun h => ?_, fun i e j c he hc => ?_⟩
      · rw [h7, hw]; exact h8 h
      · obtain ⟨a1, a2, a3, a4⟩ := h9 i e j c he hc
        exact ⟨a1.imp (hS _ _) (own hk), by rw [hw]; exact a2, a3, F a4⟩
  | ptr k o =>
    obtain ⟨b, cs, s, h1, h2, h3⟩ := h
    obtain ⟨h6, h7⟩ := hg k hk
    exact ⟨b, _, s, by rw [h6, h1]; rfl, by rw [h7]; exact h2, h3⟩
  | eptr k i o cs =>
    obtain ⟨b, q, len, sz, mu, shr, X, h1, h2, h3, h4⟩ := h
    obtain ⟨h6, h7⟩ := hg k hk
    refine ⟨b, q, len, sz, mu, shr, X, by rw [h6, h1]; rfl, h2, fun h => by rw [h7]; exact h3 h, fun j c hc => ?_⟩
    obtain ⟨a1, a2, a3, a4⟩ := h4 j c hc
    exact ⟨a1.imp (hS _ _) (own hk), by rw [hw]; exact a2, a3, F a4⟩
  | bnil T => exact h
  | sub k l n =>
    obtain ⟨b, o, cap, len, sz, mu, shr, h0, h1, h3⟩ := h
    obtain ⟨h6, h7⟩ := hg k hk
    exact ⟨b, o, cap, len, sz, mu, shr, h0, by rw [h6, h1]; rfl, fun h => by rw [h7]; exact h3 h⟩
  | mp k => exact h.elim
  | it k => exact h.elim
  | agg cs => exact h.elim
  | tup cs => exact h.elim
  | own sz m es => exact h.elim
  | v y => exact F h
  | fsl es => exact F h
  | fptr cs => exact F h
  | fn f cs => exact F h
  | iface t y => exact F h
theorem mask_repA {keep : List Nat} {C C' : Ctx} (hw : C'.w = C.w) (hS : ∀ b i, C.S b i → C'.S b i) (hg : ∀ k : Key, inK keep k.1 = true → C'.g k = (C.g k).map (maskOb keep) ∧ C'.μ k = C.μ k) {c : AV} {x : Value} (hk : okA keep c = true) (h : LRepA C c x) : LRepA C' c x := by
  cases c with
  | agg cs =>
    obtain ⟨vs, h1, h2, h3⟩ := h
    refine ⟨vs, h1, h2, fun j c x hc hx => ⟨mask_rep1 hw hS hg ?_ (h3 j c x hc hx).1, (h3 j c x hc hx).2⟩⟩
    exact List.all_eq_true.1 hk c (List.mem_of_getElem? hc)
  | _ => simp only [LRepA] at h ⊢; exact mask_rep1 hw hS hg hk h
theorem mask_rep {keep : List Nat} {C C' : Ctx} (hw : C'.w = C.w) (hS : ∀ b i, C.S b i → C'.S b i) (hg : ∀ k : Key, inK keep k.1 = true → C'.g k = (C.g k).map (maskOb keep) ∧ C'.μ k = C.μ k) {c : AV} {x : Value} (hk : okT keep c = true) (h : LRep C c x) : LRep C' c x := by
  cases c with
  | tup cs =>
    obtain ⟨vs, h1, h2, h3⟩ := h
    refine ⟨vs, h1, h2, fun j c x hc hx => mask_repA hw hS hg ?_ (h3 j c x hc hx)⟩
    exact List.all_eq_true.1 hk c (List.mem_of_getElem? hc)
  | _ => simp only [LRep] at h ⊢; exact mask_repA hw hS hg hk h
theorem Inv.mask (hI : Inv G w0 S0 σ.t (getO σ.o) μ a w) (keep : List Nat) : ∃ μ', Inv G w0 S0 (σ.mask keep).t (getO (σ.mask keep).o) μ' a w := by
  let μ' : Key → Option (Nat × Nat) := fun k => if inK keep k.1 = true then μ k else none
  have hμ' : ∀ k b base, μ' k = some (b, base) → inK keep k.1 = true ∧ μ k = some (b, base) := by
    intro k b base h
    simp only [μ'] at h
    split at h
    · rename_i hk; exact ⟨hk, h⟩
    · cases h
  have hS : ∀ b i, Stab w0 S0 w (getO σ.o) μ b i → Stab w0 S0 w (getO (σ.mask keep).o) μ' b i := by
    intro b i h
    rcases h with h | ⟨h1, h2, h3⟩
    · exact .inl h
    · refine .inr ⟨h1, h2, fun k base hk => ?_⟩
      obtain ⟨hk1, hk2⟩ := hμ' k b base hk
      have := h3 k base hk2
      show Cov (getO (maskO keep σ.o) k) base i
      rw [maskO_get, if_pos hk1]
      cases hg : getO σ.o k with
      | none => rw [hg] at this; exact this
      | some x => rw [hg] at this; cases x <;> exact this
  have hg : ∀ k : Key, inK keep k.1 = true → (mkC w0 S0 w (getO (σ.mask keep).o) μ').g k = ((mkC w0 S0 w (getO σ.o) μ).g k).map (maskOb keep) ∧ (mkC w0 S0 w (getO (σ.mask keep).o) μ').μ k = (mkC w0 S0 w (getO σ.o) μ).μ k := by
    intro k hk
    refine ⟨?_, ?_⟩
    · show getO (maskO keep σ.o) k = _
      rw [maskO_get, if_pos hk]
      rfl
    · show (if inK keep k.1 = true then μ k else none) = μ k
      rw [if_pos hk]
  have hinj : ∀ k k' b i i', μ' k = some (b, i) → μ' k' = some (b, i') → k = k' := fun k k' b i i' h h' => hI.inj _ _ _ _ _ (hμ' _ _ _ h).2 (hμ' _ _ _ h').2
  refine ⟨μ', hI.below, ?_, fun i c hc => ?_, fun k x hx => ?_, fun k b base h => ?_, hinj, hI.df, hI.laid, hI.unlent, (fun b i ho hs => let ⟨h1, h2⟩ := hI.fz b i ho hs; ⟨hS b i h1, h2⟩), (fun k b h => by
    obtain ⟨h1, ⟨cs, s, h2⟩, h3⟩ := hI.root k b h
    have hk : inK keep k.1 = true := by simp [inK, h1]
    obtain ⟨h4, h5⟩ := hg k hk
    have h4 : getO (maskO keep σ.o) k = (getO σ.o k).map (maskOb keep) := h4
    have h5 : μ' k = μ k := h5
    exact ⟨h1, ⟨_, s, by show getO (maskO keep σ.o) k = _; rw [h4, h2]; rfl⟩, h5.trans h3⟩), fun n => (hI.gl n).imp id fun h => h.mono fun b i hs => ⟨hS b i hs, rfl⟩⟩
  · show (maskT keep 0 σ.t).length = _
    rw [(maskT_get keep σ.t 0 0).1]; exact hI.len
  · have hc : (maskT keep 0 σ.t)[i]? = some c := hc
    rw [(maskT_get keep σ.t 0 i).2, Option.map_eq_some_iff] at hc
    obtain ⟨c0, hc0, rfl⟩ := hc
    obtain ⟨x, h1, h2⟩ := hI.tmp i c0 hc0
    refine ⟨x, h1, ?_⟩
    split
    · rename_i hk
      simp only [Bool.and_eq_true] at hk
      exact mask_rep (C := mkC w0 S0 w (getO σ.o) μ) (C' := mkC w0 S0 w (getO (σ.mask keep).o) μ') rfl hS hg hk.2 h2
    · trivial
  · have hx : getO (maskO keep σ.o) k = some x := hx
    rw [maskO_get] at hx
    split at hx
    · rename_i hk
      rw [Option.map_eq_some_iff] at hx
      obtain ⟨y, hy, rfl⟩ := hx
      have := hI.ob k y hy
      have hμk := (hg k hk).2
      cases y with
      | var cs s =>
        obtain ⟨b, xs, ty, h1, h2, h3, h4⟩ := this
        refine ⟨b, xs, ty, hμk.trans h1, h2, by rw [h3]; simp, fun i c x hc hx => ?_, h4.2.map fun c T h => by
          split at h
          · exact h
          · cases h⟩
        rw [List.getElem?_map, Option.map_eq_some_iff] at hc
        obtain ⟨c0, hc0, rfl⟩ := hc
        obtain ⟨h5, h6⟩ := h4.1 i c0 x hc0 hx
        refine ⟨?_, h6⟩
        split
        · rename_i ho
          exact mask_rep1 (C := mkC w0 S0 w (getO σ.o) μ) (C' := mkC w0 S0 w (getO (σ.mask keep).o) μ') rfl hS hg ho h5
        · trivial
      | tail len sz mu shr =>
        refine ⟨this.1, ?_⟩
        rcases this.2 with ⟨h1, h2⟩ | ⟨b, base, xs, ty, h1, h2, h3⟩
        · exact .inl ⟨hμk.trans h1, h2⟩
        · exact .inr ⟨b, base, xs, ty, hμk.trans h1, h2, h3⟩
      | map es => exact this.elim
      | siter s p => exact this.elim
    · cases hx
  · obtain ⟨hk, h1⟩ := hμ' k b base h
    have := hI.pl k b base h1
    refine ⟨?_, this.2⟩
    show (getO (maskO keep σ.o) k).isSome = true
    rw [maskO_get, if_pos hk]
    simpa using this.1
theorem C_sound (hm : P.follows .mixedOrders = true) (hcall : CallOk2 P G call) {n : Nat} : ∀ (c : Code) (cc : CC) (σ : St) (e : XE) (σ' : St) (Q : Exit → Act → World → Prop) (μ : Key → Option (Nat × Nat)) (a : Act) (w : World), cC P ow c = eraseK cc → denC call G n cc σ = some (e, σ') →
    Inv G w0 S0 σ.t (getO σ.o) μ a w → (∀ a' w' μ', Inv G w0 S0 σ'.t (getO σ'.o) μ' a' w' → Q (xe e) a' w') → c.wp P Q a w
  | .skip, cc, σ, e, σ', Q, μ, a, w, hc, hd, hI, hQ => by
    cases cc <;> simp only [cC, eraseK, reduceCtorEq] at hc
    simp only [denC, Option.some.injEq, Prod.mk.injEq] at hd
    obtain ⟨rfl, rfl⟩ := hd
    exact wp_skip (hQ _ _ _ hI)
  | .exit id, cc, σ, e, σ', Q, μ, a, w, hc, hd, hI, hQ => by
    cases cc <;> simp only [cC, eraseK, reduceCtorEq, CC.exit.injEq] at hc
    subst hc
    simp only [denC, Option.some.injEq, Prod.mk.injEq] at hd
    obtain ⟨rfl, rfl⟩ := hd
    exact wp_exit (hQ _ _ _ hI)
  | .ret, cc, σ, e, σ', Q, μ, a, w, hc, hd, hI, hQ => by
    cases cc <;> simp only [cC, eraseK, reduceCtorEq] at hc
    simp only [denC, Option.some.injEq, Prod.mk.injEq] at hd
    obtain ⟨rfl, rfl⟩ := hd
    exact wp_ret (hQ _ _ _ hI)
  | .region id ops draw, cc, σ, e, σ', Q, μ, a, w, hc, hd, hI, hQ => by
    have hr : cc = .bad ∨ ∃ pre suf, cc = .reg pre suf ∧ cReg P ow ops draw = some (.reg pre suf) := by
      simp only [cC] at hc
      cases hq : cReg P ow ops draw with
      | none =>
        rw [hq] at hc
        cases cc <;> simp [eraseK] at hc
        exact .inl rfl
      | some q =>
        rw [hq] at hc
        have hq' := hq
        unfold cReg at hq'
        simp only [Option.bind_eq_some_iff] at hq'
        obtain ⟨l, _, hq'⟩ := hq'
        have hs : ∃ pre suf, q = .reg pre suf := by
          cases draw with
          | false => simp at hq'; exact ⟨_, _, hq'.symm⟩
          | true =>
            simp only [cond_true] at hq'
            split at hq'
            · simp at hq'; exact ⟨_, _, hq'.symm⟩
            · cases hq'
        obtain ⟨pre, suf, rfl⟩ := hs
        simp only [Option.getD_some] at hc
        cases cc <;> simp only [eraseK, reduceCtorEq] at hc
        exact .inr ⟨_, _, rfl, by rw [hc]⟩
    rcases hr with rfl | ⟨pre, suf, rfl, hcr⟩
    · simp [denC] at hd
    simp only [denC, Option.bind_eq_some_iff, Option.some.injEq, Prod.mk.injEq] at hd
    obtain ⟨D, hD, σ1, h1, rfl, rfl⟩ := hd
    exact reg_sound hm hcall hcr hD h1 hI hQ
  | .seq x y, cc, σ, e, σ', Q, μ, a, w, hc, hd, hI, hQ => by
    cases cc <;> simp only [cC, eraseK, reduceCtorEq, CC.seq.injEq] at hc
    rename_i ca cb
    obtain ⟨hx, hy⟩ := hc
    simp only [denC, Option.bind_eq_some_iff] at hd
    obtain ⟨⟨e1, σ1⟩, h1, h2⟩ := hd
    refine wp_seq (C_sound hm hcall x ca σ e1 σ1 _ μ a w hx h1 hI fun a' w' μ' hI' => ?_)
    cases e1 with
    | normal => exact C_sound hm hcall y cb σ1 e σ' Q μ' a' w' hy h2 hI' hQ
    | exit i =>
      simp only [Option.some.injEq, Prod.mk.injEq] at h2
      obtain ⟨rfl, rfl⟩ := h2
      exact hQ _ _ _ hI'
    | ret =>
      simp only [Option.some.injEq, Prod.mk.injEq] at h2
      obtain ⟨rfl, rfl⟩ := h2
      exact hQ _ _ _ hI'
  | .cond b x y, cc, σ, e, σ', Q, μ, a, w, hc, hd, hI, hQ => by
    cases cc <;> simp only [cC, eraseK, reduceCtorEq, CC.cond.injEq] at hc
    rename_i cb ca cb'
    obtain ⟨rfl, hx, hy⟩ := hc
    have hb := hI.ev b
    simp only [denC] at hd
    split at hd
    · rename_i v hv
      rw [hv] at hb
      have hb := hb.v_inv
      cases v with
      | true => simp only [if_true] at hd; exact wp_cond_true hb (C_sound hm hcall x ca σ e σ' Q μ a w hx hd hI hQ)
      | false => simp only [Bool.false_eq_true, if_false] at hd; exact wp_cond_false hb (C_sound hm hcall y cb' σ e σ' Q μ a w hy hd hI hQ)
    · cases hd
  | .block id x, cc, σ, e, σ', Q, μ, a, w, hc, hd, hI, hQ => by
    cases cc <;> simp only [cC, eraseK, reduceCtorEq, CC.block.injEq] at hc
    rename_i id' ca
    obtain ⟨rfl, hx⟩ := hc
    simp only [denC, Option.bind_eq_some_iff] at hd
    obtain ⟨⟨e1, σ1⟩, h1, h2⟩ := hd
    refine wp_block (C_sound hm hcall x ca σ e1 σ1 _ μ a w hx h1 hI fun a' w' μ' hI' => ?_)
    cases e1 with
    | normal =>
      simp only [Option.some.injEq, Prod.mk.injEq] at h2
      obtain ⟨rfl, rfl⟩ := h2
      exact hQ _ _ _ hI'
    | exit i =>
      simp only at h2
      show (if i = id then _ else _)
      split at h2
      · rename_i he
        rw [if_pos he]
        simp only [Option.some.injEq, Prod.mk.injEq] at h2
        obtain ⟨rfl, rfl⟩ := h2
        exact hQ _ _ _ hI'
      · rename_i he
        rw [if_neg he]
        simp only [Option.some.injEq, Prod.mk.injEq] at h2
        obtain ⟨rfl, rfl⟩ := h2
        exact hQ _ _ _ hI'
    | ret =>
      simp only [Option.some.injEq, Prod.mk.injEq] at h2
      obtain ⟨rfl, rfl⟩ := h2
      exact hQ _ _ _ hI'
  | .loop x, cc, σ, e, σ', Q, μ, a, w, hc, hd, hI, hQ => by
    cases cc <;> simp only [cC, eraseK, reduceCtorEq, CC.loop.injEq] at hc
    rename_i keep ca
    obtain ⟨_, hx⟩ := hc
    simp only [denC] at hd
    have key : ∀ (m : Nat) (σ : St) (μ : Key → Option (Nat × Nat)) (a : Act) (w : World), denC.rounds keep (denC call G n ca) m σ = some (e, σ') → Inv G w0 S0 σ.t (getO σ.o) μ a w → Code.rounds P x Q m a w := by
      intro m
      induction m with
      | zero => intro σ μ a w h; simp [denC.rounds] at h
      | succ m ih =>
        intro σ μ a w h hI
        simp only [denC.rounds, Option.bind_eq_some_iff] at h
        obtain ⟨⟨e1, σ1⟩, h1, h2⟩ := h
        obtain ⟨μ', hI1⟩ := hI.mask keep
        refine C_sound hm hcall x ca (σ.mask keep) e1 σ1 _ μ' a w hx h1 hI1 fun a' w' μ'' hI' => ?_
        cases e1 with
        | normal => exact ih σ1 μ'' a' w' h2 hI'
        | exit i =>
          simp only [Option.some.injEq, Prod.mk.injEq] at h2
          obtain ⟨rfl, rfl⟩ := h2
          exact hQ _ _ _ hI'
        | ret =>
          simp only [Option.some.injEq, Prod.mk.injEq] at h2
          obtain ⟨rfl, rfl⟩ := h2
          exact hQ _ _ _ hI'
    exact wp_loop_rounds n (key n σ μ a w hd hI)
  | .rangeFunc .., cc, σ, e, σ', Q, μ, a, w, hc, hd, hI, hQ => by
    cases cc <;> simp only [cC, eraseK, reduceCtorEq] at hc
    simp [denC] at hd
  | .scope _, cc, σ, e, σ', Q, μ, a, w, hc, hd, hI, hQ => by
    cases cc <;> simp only [cC, eraseK, reduceCtorEq] at hc
    simp [denC] at hd
  | .label _, cc, σ, e, σ', Q, μ, a, w, hc, hd, hI, hQ => by
    cases cc <;> simp only [cC, eraseK, reduceCtorEq] at hc
    simp [denC] at hd
  | .goto _, cc, σ, e, σ', Q, μ, a, w, hc, hd, hI, hQ => by
    cases cc <;> simp only [cC, eraseK, reduceCtorEq] at hc
    simp [denC] at hd
  | .refuse _, cc, σ, e, σ', Q, μ, a, w, hc, hd, hI, hQ => by
    cases cc <;> simp only [cC, eraseK, reduceCtorEq] at hc
    simp [denC] at hd
end
end Go.Proofs.YtmhdapjmndfkgaaGreatDoor.Eng
namespace Go.Proofs.YtmhdapjmndfkgaaGreatDoor.Eng
open Go Go.RowKit
section
variable {P : Program} {G : Nat → AV} {w0 w w' : World} {S0 : Sb} {T : List AV} {g g' : Key → Option Ob} {μ μ' ν : Key → Option (Nat × Nat)} {a : Act} {σ σ' : St} {d j : Nat} {call : Call} {ow : Nat → Bool}
def resV (tmps : Array Value) : ResultVar → Sem Value
  | .tmp t => pure (tmps.getD t undef)
  | .cell a t => do loadVar t (← asAddr (tmps.getD a undef))
theorem getRs_run (hI : Inv G w0 S0 σ.t (getO σ.o) μ a w) : ∀ (rv : List ResultVar) (cr : List CR) (rs : List AV), cR P rv = some cr → getRs σ cr = some rs →
    ∃ ys : List Value, (rv.mapM (resV a.tmps)).run P w = .ok ys w ∧ ys.length = rs.length ∧ ∀ (m : Nat) (r : AV) (y : Value), rs[m]? = some r → ys[m]? = some y → LRep (mkC w0 S0 w (getO σ.o) μ) r y
  | [], cr, rs, hc, hr => by
    simp [cR] at hc
    subst hc
    simp [getRs] at hr
    subst hr
    exact ⟨[], rfl, rfl, fun m r y h => by simp at h⟩
  | .tmp t :: rv, cr, rs, hc, hr => by
    simp only [cR, Option.map_eq_some_iff] at hc
    obtain ⟨m, hm, rfl⟩ := hc
    simp only [getRs, Option.bind_eq_some_iff, Option.some.injEq] at hr
    obtain ⟨x, hx, l, hl, rfl⟩ := hr
    obtain ⟨ys, h1, h2, h3⟩ := getRs_run hI rv m l hm hl
    refine ⟨a.tmps.getD t undef :: ys, ?_, by simp [h2], fun m r y hr hy => ?_⟩
    · simp [List.mapM_cons, resV, h1]
    · cases m with
      | zero =>
        simp only [getR, Option.some.injEq] at hx
        simp at hr hy
        subst hr hx hy
        have := hI.ev (.tmp t)
        simpa [cX, ev, Act.eval] using this
      | succ m => exact h3 m r y (by simpa using hr) (by simpa using hy)
  | .cell q t :: rv, cr, rs, hc, hr => by
    simp only [cR, Option.bind_eq_some_iff] at hc
    obtain ⟨ag, hag, n, hn, hc⟩ := hc
    split at hc
    · simp only [Option.map_eq_some_iff] at hc
      obtain ⟨m, hm, rfl⟩ := hc
      simp only [getRs, Option.bind_eq_some_iff, Option.some.injEq] at hr
      obtain ⟨x, hx, l, hl, rfl⟩ := hr
      obtain ⟨ys, h1, h2, h3⟩ := getRs_run hI rv m l hm hl
      have hq := hI.ev (.tmp q)
      have key : ∃ y, (resV a.tmps (.cell q t)).run P w = .ok y w ∧ LRep (mkC w0 S0 w (getO σ.o) μ) x y := by
        simp only [getR] at hx
        split at hx
        · rename_i k off hk
          split at hx
          · rename_i cs s hg
            have hq' : LRep (mkC w0 S0 w (getO σ.o) μ) (.ptr k off) (a.eval (.tmp q)) := by
              rw [← hk]
              exact hq
            obtain ⟨b, cs', s1, e1, e2, e3⟩ := hq'
            obtain ⟨b', xs, ty, h4, h5, h6, h7⟩ := hI.ob k _ hg
            have e2 : μ k = some (b, 0) := e2
            have h4 : μ k = some (b', 0) := h4
            rw [e2] at h4
            cases h4
            obtain ⟨y, hy1, hy2⟩ := pack_load (C := mkC w0 S0 w (getO σ.o) μ) (P := P) (b := b) (q := off) (X := fun j => xs.getD (off + j) default) hag hn (fun j c hj => by
              have hj' := drop_get hj
              have hlt : off + j < xs.size := by rw [h6]; exact (List.getElem?_eq_some_iff.1 hj').1
              have hxs : xs[off + j]? = some (xs.getD (off + j) default) := by simp [Array.getD, hlt]
              exact ⟨cell_of_heap h5 hxs, h7.1 _ _ _ hj' hxs⟩) hx
            have hy1 : (loadVar t ⟨b, off, none⟩).run P w = .ok y w := hy1
            refine ⟨y, ?_, hy2⟩
            have e3 : a.tmps.getD q undef = .pointer (some ⟨b, off, none⟩) := e3
            simp [resV, e3, asAddr, hy1]
          · cases hx
        · cases hx
      obtain ⟨y, hy1, hy2⟩ := key
      refine ⟨y :: ys, ?_, by simp [h2], fun m r y' hr hy => ?_⟩
      · simp [List.mapM_cons, hy1, h1]
      · cases m with
        | zero => simp at hr hy; subst hr hy; exact hy2
        | succ m => exact h3 m r y' (by simpa using hr) (by simpa using hy)
    · cases hc
theorem results_run {fn : Func} {tmps : Array Value} {ys : List Value} (h : (fn.results.toList.mapM (resV tmps)).run P w = .ok ys w) : (results fn tmps).run P w = .ok (packV ys) w := by
  unfold results
  refine Eq.trans (congrArg (fun m : Sem (Array Value) => (m >>= fun vs => pure (if h : vs.size = 1 then vs[0] else Value.tuple vs)).run P w) (?_ : _ = List.toArray <$> fn.results.toList.mapM (resV tmps))) ?_
  · rw [← List.mapM_toArray]
    simp only [Array.toArray_toList]
    first | rfl | (congr 1; funext x; cases x <;> rfl)
  · have hm : (List.toArray <$> fn.results.toList.mapM (resV tmps)).run P w = .ok ys.toArray w := by
      rw [← bind_pure_comp]
      simp only [Sem.run_bind, h, Result.andThen_ok]
      rfl
    simp only [Sem.run_bind, hm, Result.andThen_ok]
    match ys with
    | [] => simp [packV]
    | [y] => simp [packV]
    | y :: y' :: ys => simp [packV]
theorem Inv.start {S : Nat → Nat → Prop} {args : List AV} {vargs : Array Value} {n : Nat} (hS : ∀ b i, S b i → b < w.heap.size) (hG : GlobOk G w S) (hl : vargs.size = args.length)
    (ha : ∀ (i : Nat) (c : AV) (x : Value), args[i]? = some c → vargs[i]? = some x → FRep w S c x) :
    Inv G w (.fix S) (args ++ List.replicate (n - args.length) .undef) (getO []) (fun _ => none) { tmps := vargs ++ Array.replicate (n - vargs.size) undef, defers := [] } w := by
  have hst : ∀ b i, S b i → Stab w (.fix S) w (getO []) (fun _ => none) b i := fun b i h => .inl ⟨⟨hS b i h, id⟩, h⟩
  refine ⟨.refl _ _, by simp [hl], fun i c hc => ?_, fun k x h => (by cases h), fun k b base h => (by cases h), fun k k' b i i' h => (by cases h), rfl, hG.2, fun _ _ _ h => h, (fun b i h => h.elim), (fun k b h => h.elim), fun n => (hG.1 n).imp id fun h => h.mono fun b i hs => ⟨hst b i hs, rfl⟩⟩
  by_cases hlt : i < args.length
  · rw [List.getElem?_append_left hlt] at hc
    have hv : i < vargs.size := by omega
    refine ⟨vargs[i], by show (vargs ++ _)[i]? = _; rw [Array.getElem?_append_left hv, Array.getElem?_eq_getElem hv], ?_⟩
    have := ha i c vargs[i] hc (Array.getElem?_eq_getElem hv)
    exact LRepA.lr (FRep.la (C := mkC w (.fix S) w (getO []) fun _ => none) (this.mono fun b i hs => ⟨hst b i hs, rfl⟩))
  · rw [List.getElem?_append_right (by omega)] at hc
    have hc' := List.getElem?_eq_some_iff.1 hc
    obtain ⟨h1, h2⟩ := hc'
    simp at h1 h2
    subst h2
    refine ⟨undef, ?_, trivial⟩
    show (vargs ++ _)[i]? = _
    rw [Array.getElem?_append_right (by omega), Array.getElem?_replicate, if_pos (by omega)]
theorem F_sound (hm : P.follows .mixedOrders = true) (hcall : CallOk2 P G call) {n : Nat} {f : FuncId} {fn : Func} {cf : CF} {args : List AV} {r : AV} (hf : P.funcs[f]? = some fn) (hcf : cF P ow fn = some { cf with code := eraseK cf.code }) (hd : denF call G n cf args = some r)
    {S : Nat → Nat → Prop} {vargs : Array Value} (hS : ∀ b i, S b i → b < w.heap.size) (hG : GlobOk G w S) (hl : vargs.size = args.length)
    (ha : ∀ (i : Nat) (c : AV) (x : Value), args[i]? = some c → vargs[i]? = some x → FRep w S c x) :
    Calls P f vargs w fun e w' => ∃ y, e = .returned y ∧ Below w.heap.size w w' ∧ RRep w (.fix S) r y w' := by
  unfold cF at hcf
  simp only [Option.bind_eq_some_iff] at hcf
  obtain ⟨b, hb, res, hres, hcf⟩ := hcf
  split at hcf
  · rename_i hle
    simp only [Option.some.injEq, CF.mk.injEq] at hcf
    obtain ⟨h1, h2, h3, h4⟩ := hcf
    unfold denF at hd
    split at hd
    · rename_i hargs
      simp only [Option.bind_eq_some_iff] at hd
      obtain ⟨⟨e, σ'⟩, hd1, hd2⟩ := hd
      refine calls_of_wp hf hb ?_
      refine C_sound (G := G) (w0 := w) (S0 := .fix S) hm hcall b cf.code _ e σ' _ (fun _ => none) _ w h3 hd1 ?_ fun a' w' μ' hI => ?_
      · show Inv G w (.fix S) (args ++ List.replicate (cf.ntmps - args.length) .undef) _ _ _ _
        rw [← h2]
        exact Inv.start hS hG hl ha
      · have fin : ((getRs σ' cf.res).bind fun rs => outF σ' rs) = some r → a'.defers = [] ∧ ∃ v, (results fn a'.tmps).run P w' = .ok v w' ∧ ∃ y, Ending.returned v = .returned y ∧ Below w.heap.size w w' ∧ RRep w (.fix S) r y w' := by
          intro hd2
          refine ⟨hI.df, ?_⟩
          simp only [Option.bind_eq_some_iff] at hd2
          obtain ⟨rs, hrs, ho⟩ := hd2
          obtain ⟨ys, hy1, hy2, hy3⟩ := getRs_run hI fn.results.toList cf.res rs (by rw [hres, h4]) hrs
          refine ⟨_, results_run hy1, _, rfl, hI.below.below fun _ => id, ?_⟩
          unfold outF at ho
          split at ho
          · rename_i hsz
            simp only [Option.bind_eq_some_iff] at ho
            obtain ⟨l, hl, ho⟩ := ho
            have hsz' : ∀ r ∈ rs, (cellsOf r).length ≤ 100 := fun r hr => by simpa using List.all_eq_true.1 hsz r hr
            have hll := (expT_get hl).1
            intro d j
            obtain ⟨ν, n1', n2, n5, n3, n6, n4⟩ := out_rep hI (fun _ _ h => h) (fun k b base _ _ _ _ _ _ h _ _ => (hI.pl k b base h).2.1) hsz' hl d j
            clear n5 n6
            have n1 := fun k b base h => let ⟨a, b', _⟩ := n1' k b base h; (⟨a, b'⟩ : _ ∧ Mine w (.fix S) b ∧ b < w'.heap.size)
            split at ho
            · rename_i x
              have hr : x = r := by simpa using ho
              subst hr
              have hx : impU d j x = impA d j x := by
                obtain ⟨r0, hr0⟩ : ∃ r0, rs = [r0] := by
                  match rs, hll with
                  | [r0], _ => exact ⟨r0, rfl⟩
                obtain ⟨r', hr', he⟩ := (expT_get hl).2 0 r0 (by rw [hr0]; rfl)
                simp at hr'
                subst hr'
                rcases (expA_get he).2.2 with ⟨cs, cs', _, rfl⟩ | h
                · rfl
                · cases x with
                  | tup vs => exact absurd rfl ((exp1_nt h).1 vs)
                  | _ => rfl
              have hT : (impT d j [x]).2 = (impU d j x).2 := by rw [hx]; simp [impT]
              rw [hT] at n1 n3 n4
              refine ⟨ν, n1, n2, n3, ?_⟩
              obtain ⟨r0, hr0⟩ : ∃ r0, rs = [r0] := by
                match rs, hll with
                | [r0], _ => exact ⟨r0, rfl⟩
              subst hr0
              obtain ⟨y, hy0⟩ : ∃ y, ys = [y] := by
                match ys, hy2 with
                | [y], _ => exact ⟨y, rfl⟩
              subst hy0
              obtain ⟨r', hr', h5⟩ := n4 0 r0 y rfl (hy3 0 r0 y rfl rfl)
              simp at hr'
              subst hr'
              rw [hx]
              rw [hx] at h5
              exact LRepA.lr h5
            · rename_i hne
              have hr : AV.tup l = r := by simpa using ho
              subst hr
              have hU : impU d j (.tup l) = (.tup (impT d j l).1, (impT d j l).2) := rfl
              rw [hU]
              refine ⟨ν, n1, n2, n3, ?_⟩
              have hys : packV ys = .tuple ys.toArray := by
                match ys, hy2 with
                | [], _ => rfl
                | [y], hy2 =>
                  exfalso
                  match l, hll, hne with
                  | [x], _, hne => exact hne x rfl
                  | [], hll, _ => simp at hll; simp at hy2; omega
                  | _ :: _ :: _, hll, _ => simp at hll; simp at hy2; omega
                | _ :: _ :: _, _ => rfl
              rw [hys]
              refine ⟨ys.toArray, rfl, by rw [(impT_get d l j 0).1]; simp [hy2, hll], fun m c x hc hx => ?_⟩
              have hm : m < l.length := by rw [← (impT_get d l j 0).1]; exact (List.getElem?_eq_some_iff.1 hc).1
              have hmr : m < rs.length := by omega
              rw [(impT_get d l j m).2 _ (List.getElem?_eq_getElem hm)] at hc
              cases hc
              obtain ⟨r', hr', h5⟩ := n4 m _ x (List.getElem?_eq_getElem hmr) (hy3 m _ x (List.getElem?_eq_getElem hmr) (by simpa using hx))
              rw [List.getElem?_eq_getElem hm] at hr'
              cases hr'
              exact h5
          · cases ho
        cases e with
        | normal => exact fin hd2
        | ret => exact fin hd2
        | exit i => cases hd2
    · cases hd
  · cases hcf
end
end Go.Proofs.YtmhdapjmndfkgaaGreatDoor.Eng
namespace Go.Proofs.YtmhdapjmndfkgaaGreatDoor.Eng
open Go Go.RowKit
section
variable {P : Program} {G : Nat → AV} {w0 w w' : World} {S0 : Sb} {T : List AV} {g g' : Key → Option Ob} {μ μ' ν : Key → Option (Nat × Nat)} {a : Act} {σ σ' : St} {d j : Nat} {call : Call} {ow : Nat → Bool}
def RootAt (ls : List AV) (ν : Key → Option (Nat × Nat)) (k : Key) (b : Nat) : Prop := k.1 = 1000001 ∧ (∃ cs s, getO (lendIn ls) k = some (.var cs s)) ∧ ν k = some (b, 0)
def lentSb (S : Sb) (ls : List AV) (ν : Key → Option (Nat × Nat)) : Sb := ⟨S.S, S.O, RootAt ls ν⟩
theorem Inv.startL {S : Sb} {ls as : List AV} {vargs : Array Value} {sv : Nat → Value} {n : Nat} (H : Given G w S ls as vargs sv ν) :
    Inv G w (lentSb S ls ν) (as ++ List.replicate (n - as.length) .undef) (getO (lendIn ls)) ν { tmps := vargs ++ Array.replicate (n - vargs.size) undef, defers := [] } w := by
  have hS : ∀ b i, S.S b i → Stab w (lentSb S ls ν) w (getO (lendIn ls)) ν b i := by
    intro b i h
    by_cases ho : S.O b
    · exact H.fz b i ho h
    · exact .inl ⟨⟨H.lt b i h, ho⟩, h⟩
  refine ⟨.refl _ _, by simp [H.len], fun i c hc => ?_, H.ob, fun k b base h => ⟨(H.pl k b base h).1, .inr (H.pl k b base h).2.1, (H.pl k b base h).2.2⟩, H.inj, rfl, H.glob.2, H.unlent, fun b i ho hs => ⟨hS b i hs, rfl⟩, fun k b h => ⟨by rw [h.1]; omega, h.2⟩, fun n => (H.glob.1 n).imp id fun h => h.mono fun b i hs => ⟨hS b i hs, rfl⟩⟩
  by_cases hlt : i < as.length
  · rw [List.getElem?_append_left hlt] at hc
    have hv : i < vargs.size := by rw [H.len]; exact hlt
    exact ⟨vargs[i], by show (vargs ++ _)[i]? = _; rw [Array.getElem?_append_left hv, Array.getElem?_eq_getElem hv], H.arg i c vargs[i] hc (Array.getElem?_eq_getElem hv)⟩
  · rw [List.getElem?_append_right (by omega)] at hc
    obtain ⟨h1, h2⟩ := List.getElem?_eq_some_iff.1 hc
    simp at h1 h2
    subst h2
    refine ⟨undef, ?_, trivial⟩
    show (vargs ++ _)[i]? = _
    have := H.len
    rw [Array.getElem?_append_right (by omega), Array.getElem?_replicate, if_pos (by omega)]
theorem lendOut_get {o : List (Key × Ob)} : ∀ (ls : List AV) (i : Nat) (bs : List AV), lendOut o i ls = some bs → bs.length = ls.length ∧ ∀ (q : Nat) (c : AV), ls[q]? = some c → (∃ cs, c = .agg cs) ∧ ∃ cs', getO o (1000001, i + q) = some (.var cs' false) ∧ bs[q]? = some (.agg cs')
  | [], i, bs, h => by simp only [lendOut, Option.some.injEq] at h; subst h; exact ⟨rfl, fun q c h => by simp at h⟩
  | x :: ls, i, bs, h => by
    cases x with
    | agg cs =>
      unfold lendOut at h
      split at h
      · rename_i cs' hk
        rw [Option.map_eq_some_iff] at h
        obtain ⟨bs', hb, rfl⟩ := h
        obtain ⟨h1, h2⟩ := lendOut_get ls (i + 1) bs' hb
        refine ⟨by simp [h1], fun q c hc => ?_⟩
        cases q with
        | zero => simp at hc; subst hc; exact ⟨⟨cs, rfl⟩, cs', hk, rfl⟩
        | succ q =>
          obtain ⟨e1, cs2, e2, e3⟩ := h2 q c (by simpa using hc)
          exact ⟨e1, cs2, by rw [show i + (q + 1) = i + 1 + q by omega]; exact e2, by simpa using e3⟩
      · cases h
    | _ => simp [lendOut] at h
theorem withR_bk {d j m : Nat} {l : List AV} : withR (getO (lendV 0 ((impT d j l).1.drop m))) (getO (impT d j l).2) = getO (lendBk d j m l) := by
  funext k
  unfold lendBk withR
  rw [getO_append]
theorem F_soundL (hm : P.follows .mixedOrders = true) (hcall : CallOk2 P G call) {n : Nat} {f : FuncId} {fn : Func} {cf : CF} {ls as : List AV} {r : AV} (hf : P.funcs[f]? = some fn) (hcf : cF P ow fn = some { cf with code := eraseK cf.code }) (hd : denB call G n cf (.tup ls :: as) = some r)
    {S : Sb} {vargs : Array Value} {sv : Nat → Value} (H : Given G w S ls as vargs sv ν) :
    Calls P f vargs w fun e w' => ∃ l ys, e = .returned (packV ys) ∧ r = .tup l ∧ l.length = ys.length + ls.length ∧ Bel S.O w w' ∧
      (∀ b i, S.O b → S.S b i → w'.cell? ⟨b, i, none⟩ = w.cell? ⟨b, i, none⟩) ∧ (∀ r ∈ l, (cellsOf r).length ≤ 100) ∧ ∀ d j, d < 1000000 → ∃ ν', Back w S ls sv ν l ys w' d j ν' := by
  unfold cF at hcf
  simp only [Option.bind_eq_some_iff] at hcf
  obtain ⟨b, hb, res, hres, hcf⟩ := hcf
  split at hcf
  · rename_i hle
    simp only [Option.some.injEq, CF.mk.injEq] at hcf
    obtain ⟨h1, h2, h3, h4⟩ := hcf
    simp only [denB] at hd
    split at hd
    · rename_i hargs
      simp only [Option.bind_eq_some_iff] at hd
      obtain ⟨⟨e, σ'⟩, hd1, hd2⟩ := hd
      refine calls_of_wp hf hb ?_
      refine C_sound (G := G) (w0 := w) (S0 := lentSb S ls ν) hm hcall b cf.code _ e σ' _ ν _ w h3 hd1 ?_ fun a' w' μ' hI => ?_
      · show Inv G w (lentSb S ls ν) (as ++ List.replicate (cf.ntmps - as.length) .undef) _ _ _ _
        rw [← h2]
        exact Inv.startL H
      · have fin : ((getRs σ' cf.res).bind fun rs => (lendOut σ'.o 0 ls).bind fun bs => outB σ' ls (rs ++ bs)) = some r → a'.defers = [] ∧ ∃ v, (results fn a'.tmps).run P w' = .ok v w' ∧ ∃ l ys, Ending.returned v = .returned (packV ys) ∧ r = .tup l ∧ l.length = ys.length + ls.length ∧ Bel S.O w w' ∧
            (∀ b i, S.O b → S.S b i → w'.cell? ⟨b, i, none⟩ = w.cell? ⟨b, i, none⟩) ∧ (∀ r ∈ l, (cellsOf r).length ≤ 100) ∧ ∀ d j, d < 1000000 → ∃ ν', Back w S ls sv ν l ys w' d j ν' := by
          intro hd2
          refine ⟨hI.df, ?_⟩
          simp only [Option.bind_eq_some_iff] at hd2
          obtain ⟨rs, hrs, bs, hbs, ho⟩ := hd2
          obtain ⟨ys, hy1, hy2, hy3⟩ := getRs_run hI fn.results.toList cf.res rs (by rw [hres, h4]) hrs
          obtain ⟨hb1, hb2⟩ := lendOut_get ls 0 bs hbs
          unfold outB at ho
          split at ho
          · rename_i hsz
            rw [Option.map_eq_some_iff] at ho
            obtain ⟨l, hl, rfl⟩ := ho
            have hsz' : ∀ r ∈ rs ++ bs, (cellsOf r).length ≤ 100 := fun r hr => by simpa using List.all_eq_true.1 hsz r hr
            obtain ⟨hll, hlg⟩ := expTR_get hl
            have hll' : l.length = ys.length + ls.length := by rw [hll]; simp [hy2, hb1]
            have hlsz : ∀ r ∈ l, (cellsOf r).length ≤ 100 := by
              intro r' hr'
              obtain ⟨q, hq, rfl⟩ := List.mem_iff_getElem.1 hr'
              obtain ⟨r1, e1, e2⟩ := hlg q _ (List.getElem?_eq_getElem (by omega))
              rw [List.getElem?_eq_getElem hq] at e1
              cases e1
              rw [(expAR_get e2).1]
              exact hsz' _ (List.getElem_mem _)
            refine ⟨_, results_run hy1, l, ys, rfl, rfl, hll', hI.below, fun b i ho hs => (hI.fz b i ho hs).2, hlsz, fun d j hd => ?_⟩
            have hvar : ∀ (q : Nat) (c : AV), ls[q]? = some c → ∃ cs cs' bq, c = .agg cs ∧ getO σ'.o (1000001, q) = some (.var cs' false) ∧ bs[q]? = some (.agg cs') ∧ ν (1000001, q) = some (bq, 0) ∧ μ' (1000001, q) = some (bq, 0) := by
              intro q c hc
              obtain ⟨⟨cs, rfl⟩, cs', e2, e3⟩ := hb2 q c hc
              rw [Nat.zero_add] at e2
              have hlv := lendIn_var hc
              obtain ⟨bq, xs, ty, f1, _⟩ := H.ob _ _ hlv
              have f1 : ν (1000001, q) = some (bq, 0) := f1
              obtain ⟨_, _, f2⟩ := hI.root (1000001, q) bq ⟨rfl, ⟨_, _, hlv⟩, f1⟩
              exact ⟨cs, cs', bq, rfl, e2, e3, f1, f2⟩
            have hroot : ∀ k b i, k.1 = 1000001 → ν k = some (b, i) → ∃ cs cs', ls[k.2]? = some (.agg cs) ∧ getO σ'.o k = some (.var cs' false) ∧ bs[k.2]? = some (.agg cs') ∧ μ' k = some (b, 0) ∧ i = 0 := by
              intro k b i hk hν
              obtain ⟨x, hx⟩ := Option.isSome_iff_exists.1 (H.pl k b i hν).1
              obtain ⟨cs, e1, _⟩ := lendIn_inv H.sz hk hx
              obtain ⟨k1, k2⟩ := k
              subst hk
              obtain ⟨_, cs', bq, _, e2, e3, e4, e5⟩ := hvar k2 _ e1
              rw [hν] at e4
              cases e4
              exact ⟨cs, cs', e1, e2, e3, e5, rfl⟩
            have hnst : ∀ b i, Stab w (lentSb S ls ν) w' (getO σ'.o) μ' b i → ¬ Roots ν b := by
              rintro b i h ⟨k, i', hk, hν⟩
              obtain ⟨cs, cs', _, e2, _, e4, _⟩ := hroot k b i' hk hν
              rcases h with ⟨⟨_, h⟩, _⟩ | ⟨_, _, h⟩
              · exact h (H.pl k b i' hν).2.1
              · have := h k 0 e4
                rw [e2] at this
                cases this
            have hbl : ∀ q cs', bs[q]? = some (.agg cs') → ∃ cs2, l[ys.length + q]? = some (.agg cs2) := by
              intro q cs' hq
              obtain ⟨r', e1, e2⟩ := hlg (ys.length + q) (.agg cs') (by rw [List.getElem?_append_right (by omega), hy2, Nat.add_sub_cancel_left]; exact hq)
              rcases (expAR_get e2).2.2 with ⟨_, cs2, _, rfl⟩ | h
              · exact ⟨cs2, e1⟩
              · simp [exp1R, exp1, frz1] at h
            have hgr : ∀ q cs2, l[ys.length + q]? = some (.agg cs2) → getO (lendV 0 ((impT d j l).1.drop ys.length)) (1000001, q) = some (.var (impL d (j + 100 * (ys.length + q)) cs2).1 false) := by
              intro q cs2 hq
              rw [getO_lendV, if_pos ⟨rfl, Nat.zero_le _⟩, show ((1000001, q) : Key).2 - 0 = q from rfl, List.getElem?_drop, impT_at hq]
              rfl
            obtain ⟨ν', n1, n2, n3, W, n4, n5, n6⟩ := hand (w1 := w) (S := S) (R := Roots ν) (rs := rs ++ bs) (l := l) (d := d) (j := j) (gr := getO (lendV 0 ((impT d j l).1.drop ys.length))) (νr := ν) hI (fun b i h => by
                have hn := hnst b i h
                rcases h with ⟨⟨h1, h2⟩, h3⟩ | ⟨h1, h2, h3⟩
                · exact .inl ⟨⟨h1, fun h => h2 h.1⟩, h3, hn⟩
                · exact .inr ⟨h1.imp id fun h => ⟨h, hn⟩, h2, h3⟩) (fun k b base n sz mu shr h1 h2 _ => by
                refine (hI.pl k b base h1).2.1.imp id fun h => ⟨h, ?_⟩
                rintro ⟨k', i', hk, hν⟩
                obtain ⟨cs, cs', _, e2, _, e4, _⟩ := hroot k' b i' hk hν
                obtain rfl := hI.inj _ _ _ _ _ h1 e4
                rw [h2] at e2
                cases e2) hsz' hl (fun k hk => getO_imp_ne hlsz (by rw [(lendV_key hk).1]; omega)) (fun k b base hk hν => ⟨k, base, (lendV_key hk).1, hν⟩) (fun b ⟨k, i, _, hν⟩ => (H.pl k b i hν).2.2) (fun k k' b cs s hk hg hμ => by
                unfold keepR at hk
                split at hk
                · rename_i hk2
                  cases hk
                  obtain ⟨k1, k2⟩ := k
                  obtain ⟨rfl, hk2⟩ := hk2
                  obtain ⟨_, cs', bq, _, e2, e3, e4, e5⟩ := hvar k2 _ (List.getElem?_eq_getElem hk2)
                  rw [hμ] at e5
                  cases e5
                  obtain ⟨cs2, e6⟩ := hbl k2 cs' e3
                  exact ⟨⟨_, _, hgr k2 cs2 e6⟩, e4⟩
                · cases hk)
            rw [withR_bk] at W n4 n5 n6
            have hrs : ∀ k b base, withN (getO (lendV 0 ((impT d j l).1.drop ys.length))) ν ν' k = some (b, base) → (k.1 = 1000001 ∧ (getO (lendV 0 ((impT d j l).1.drop ys.length)) k).isSome ∧ ν k = some (b, base)) ∨ (k.1 = d ∧ (getO (impT d j l).2 k).isSome ∧ ν' k = some (b, base)) := by
              intro k b base h
              unfold withN at h
              split at h
              · rename_i hs
                exact .inl ⟨(lendV_key hs).1, hs, h⟩
              · refine .inr ⟨?_, (n1 k b base h).1, h⟩
                have := (n1 k b base h).1
                by_cases hkd : k.1 = d
                · exact hkd
                · rw [getO_imp_ne hlsz hkd] at this
                  cases this
            refine ⟨withN (getO (lendV 0 ((impT d j l).1.drop ys.length))) ν ν', ?_, ?_, ?_, ?_, ?_, ?_, ?_⟩
            · intro k b base h
              rcases hrs k b base h with ⟨e1, e2, e3⟩ | ⟨e1, e2, e3⟩
              · obtain ⟨cs, cs', _, _, _, e4, _⟩ := hroot k b base e1 e3
                refine ⟨by unfold lendBk; rw [getO_append]; cases hx : getO (lendV 0 ((impT d j l).1.drop ys.length)) k with
                  | none => rw [hx] at e2; cases e2
                  | some x => rfl, (hI.pl k b 0 e4).2.2, .inl ⟨e1, e3⟩⟩
              · refine ⟨?_, (n1 k b base e3).2.2, .inr ⟨e1, (n1 k b base e3).2.1⟩⟩
                unfold lendBk
                rw [getO_append]
                cases getO (lendV 0 ((impT d j l).1.drop ys.length)) k with
                | none => simpa using e2
                | some x => rfl
            · intro k k' b i i' h h'
              have hne : ∀ k b i, k.1 = 1000001 → ν k = some (b, i) → ∀ k' i', ν' k' = some (b, i') → False := by
                intro k b i hk hν k' i' hν'
                rcases (n1 k' b i' hν').2.1 with h | h
                · have := (H.pl k b i hν).2.2; omega
                · exact h.2 ⟨k, i, hk, hν⟩
              rcases hrs k b i h with ⟨e1, e2, e3⟩ | ⟨e1, e2, e3⟩ <;> rcases hrs k' b i' h' with ⟨e1', e2', e3'⟩ | ⟨e1', e2', e3'⟩
              · exact H.inj _ _ _ _ _ e3 e3'
              · exact (hne k b i e1 e3 k' i' e3').elim
              · exact (hne k' b i' e1' e3' k i e3).elim
              · exact n2 _ _ _ _ _ e3 e3'
            · intro k x hx
              have hx0 := hx
              unfold lendBk at hx
              rw [getO_append] at hx
              cases hg : getO (lendV 0 ((impT d j l).1.drop ys.length)) k with
              | none => rw [hg, Option.none_or] at hx; exact n4 k x hx
              | some y =>
                rw [hg, Option.some_or, Option.some.injEq] at hx
                subst hx
                obtain ⟨e1, cs1, e2, e3⟩ := lendV_key (k := k) (L := (impT d j l).1.drop ys.length) (by rw [hg]; rfl)
                rw [hg] at e3
                cases e3
                rw [List.getElem?_drop] at e2
                obtain ⟨c0, e4, e5⟩ := impT_at' e2
                obtain ⟨cs0, rfl, rfl⟩ := impA_agg e5.symm
                have hq : k.2 < ls.length := by have := (List.getElem?_eq_some_iff.1 e4).1; omega
                obtain ⟨k1, k2⟩ := k
                subst e1
                obtain ⟨_, cs', bq, _, f2, f3, f4, f5⟩ := hvar k2 _ (List.getElem?_eq_getElem hq)
                obtain ⟨b', xs, ty, g1, g2, g3, g4⟩ := hI.ob _ _ f2
                have g1 : μ' (1000001, k2) = some (b', 0) := g1
                rw [f5] at g1
                cases g1
                have hrb : (rs ++ bs)[ys.length + k2]? = some (.agg cs') := by rw [List.getElem?_append_right (by omega), hy2, Nat.add_sub_cancel_left]; exact f3
                have hlr : LRep (mkC w (lentSb S ls ν) w' (getO σ'.o) μ') (.agg cs') (.agg xs) := ⟨xs, rfl, g3, fun i c x hc hx => g4.1 i c x hc hx⟩
                obtain ⟨r', p1, p2⟩ := n6 _ _ _ hrb hlr
                rw [e4] at p1
                cases p1
                obtain ⟨vs, q1, q2, q3⟩ := p2
                cases q1
                have htag : tagOk cs0 ty := by
                  obtain ⟨r2, s1, s2⟩ := hlg _ _ hrb
                  rw [e4] at s1
                  cases s1
                  simp only [expAR, Option.map_eq_some_iff] at s2
                  obtain ⟨c2, s2, s3⟩ := s2
                  cases s3
                  exact expLR_tag s2 g4.2
                refine ⟨bq, xs, ty, ?_, g2, q2, fun i c x hc hx => q3 i c x hc hx, impL_tag htag⟩
                show withN _ _ _ _ = _
                unfold withN
                rw [hg]
                exact f4
            · intro b i ho hs
              rcases (hI.fz b i ho hs).1 with ⟨⟨_, h⟩, _⟩ | ⟨h1, h2, h3⟩
              · exact (h ho).elim
              · refine .inr ⟨.inr ho, h2, fun k base hk => ?_⟩
                rcases hrs k b base hk with ⟨e1, e2, e3⟩ | ⟨e1, e2, e3⟩
                · obtain ⟨cs, cs', _, f2, _, f4, _⟩ := hroot k b base e1 e3
                  have := h3 k 0 f4
                  rw [f2] at this
                  cases this
                · have hst := n3 b i (hI.fz b i ho hs).1
                  rcases hst with ⟨⟨_, h⟩, _⟩ | ⟨g1, _, g3⟩
                  · exact absurd ⟨ho, (hnst b i (hI.fz b i ho hs).1)⟩ h
                  · have h5 := g3 k base e3
                    obtain ⟨x, hx⟩ := Option.isSome_iff_exists.1 e2
                    rw [hx] at h5
                    have := (W.g k x hx).1
                    rw [show getO (lendBk d j ys.length l) k = _ from this]
                    exact h5
            · intro q r y hr hy
              have hq : q < ys.length := (List.getElem?_eq_some_iff.1 hy).1
              have hq' : q < rs.length := by omega
              have hrq : (rs ++ bs)[q]? = some rs[q] := by rw [List.getElem?_append_left hq']; exact List.getElem?_eq_getElem hq'
              obtain ⟨r', p1, p2⟩ := n6 q _ y hrq (hy3 q _ y (List.getElem?_eq_getElem hq') hy)
              rw [hr] at p1
              cases p1
              exact p2
            · intro q cs hq
              obtain ⟨cs0, cs', bq, e1, e2, e3, e4, e5⟩ := hvar q _ hq
              obtain ⟨cs2, e6⟩ := hbl q cs' e3
              refine ⟨cs2, e6, ?_⟩
              unfold withN
              rw [hgr q cs2 e6]
              rfl
            · intro q c hq hc
              obtain ⟨cs, rfl⟩ := (hb2 q c hq).1
              cases hc
          · cases ho
        cases e with
        | exit id => cases hd2
        | normal => exact fin hd2
        | ret => exact fin hd2
    · cases hd
  · cases hcf
end
end Go.Proofs.YtmhdapjmndfkgaaGreatDoor.Eng
namespace Go.Proofs.YtmhdapjmndfkgaaGreatDoor.Eng
open Go Go.RowKit
def LeC (call call' : Call) : Prop := ∀ f a r, call f a = some r → call' f a = some r
section
variable {call call' : Call} {G : Nat → AV} {t : List AV} {g : Key → Option Ob} {d j : Nat} {op : COp}
theorem bind_mono {α β : Type} {m m' : Option α} {f f' : α → Option β} {y : β} (h : m.bind f = some y) (hm : ∀ x, m = some x → m' = some x) (hf : ∀ x, f x = some y → f' x = some y) : m'.bind f' = some y := by
  obtain ⟨x, hx, hy⟩ := Option.bind_eq_some_iff.1 h
  rw [hm x hx]
  exact hf x hy
theorem denX_mono (hle : LeC call call') {r : R} (h : denX call G t g d j op = some r) : denX call' G t g d j op = some r := by
  cases op
  case call o f l =>
    simp only [denX] at h ⊢
    exact bind_mono h (fun _ h => h) fun q h => bind_mono h (fun r => hle f q.1 r) fun _ h => h
  case cal o f l =>
    simp only [denX] at h ⊢
    split at h
    · exact bind_mono h (fun _ h => h) fun q h => bind_mono h (fun r => hle _ _ r) fun _ h => h
    · cases h
  case len s x => cases s <;> exact h
  all_goals exact h
theorem denL_mono (hle : LeC call call') {σ σ' : St} {d : Option Nat} (h : denL call G σ d op = some σ') : denL call' G σ d op = some σ' := by
  cases d with
  | none => simp [denL] at h
  | some d =>
    cases op
    case lend f fs args =>
      simp only [denL] at h ⊢
      exact bind_mono h (fun _ h => h) fun w h => bind_mono h (fun _ h => h) fun cs h => bind_mono h (fun _ h => h) fun ls h => bind_mono h (fun _ h => h) fun as h => bind_mono h (fun r => hle f _ r) fun _ h => h
    all_goals simp [denL] at h
theorem denO_mono (hle : LeC call call') {σ σ' : St} {d : Option Nat} (h : denO call G σ op d = some σ') : denO call' G σ op d = some σ' := by
  unfold denO at h ⊢
  split at h
  · rename_i hx
    rw [if_pos hx]
    exact bind_mono h (fun r => denX_mono hle) fun _ h => h
  · rename_i hx
    rw [if_neg hx]
    split at h
    · rename_i hl
      rw [if_pos hl]
      exact denL_mono hle h
    · rename_i hl
      rw [if_neg hl]
      exact h
theorem den1_mono (hle : LeC call call') {σ σ' : St} {c : CO} (h : den1 call G σ c = some σ') : den1 call' G σ c = some σ' := by
  unfold den1 at h ⊢
  refine bind_mono h (fun _ h => h) fun b h => ?_
  cases b with
  | true => exact denO_mono hle h
  | false => exact h
theorem denOs_mono (hle : LeC call call') : ∀ {l : List CO} {σ σ' : St}, denOs call G l σ = some σ' → denOs call' G l σ = some σ'
  | [], _, _, h => h
  | c :: l, σ, σ', h => by
    simp only [denOs] at h ⊢
    exact bind_mono h (fun _ => den1_mono hle) fun _ => denOs_mono hle
theorem denP1_mono (hle : LeC call call') {o : List (Key × Ob)} {t : List AV} {c : CO} {p : PD} (h : denP1 call G o t c = some p) : denP1 call' G o t c = some p := by
  unfold denP1 at h ⊢
  split at h
  · cases h
  · refine bind_mono h (fun _ h => h) fun b h => ?_
    cases b with
    | false => exact h
    | true =>
      simp only [cond_true] at h ⊢
      split at h
      · rename_i hx
        rw [if_pos hx]
        exact bind_mono h (fun r => denX_mono hle) fun _ h => h
      · cases h
theorem denPA_mono (hle : LeC call call') {o acc : List (Key × Ob)} {lens : List (Key × Nat)} {t : List AV} {c : CO} {p : PD} (h : denPA call G o acc lens t c = some p) : denPA call' G o acc lens t c = some p := by
  unfold denPA at h ⊢
  cases ha : isA c.op with
  | true => rw [ha] at h; exact h
  | false => rw [ha] at h; exact denP1_mono hle h
theorem denPs_mono (hle : LeC call call') {o : List (Key × Ob)} : ∀ {l : List CO} {t : List AV} {acc : List (Key × Ob)} {lens : List (Key × Nat)} {D : List PD}, denPs call G o l t acc lens = some D → denPs call' G o l t acc lens = some D
  | [], _, _, _, _, h => h
  | c :: l, t, acc, lens, D, h => by
    simp only [denPs] at h ⊢
    exact bind_mono h (fun _ => denPA_mono hle) fun _ h => bind_mono h (fun _ => denPs_mono hle) fun _ h => h
theorem denC_mono (hle : LeC call call') {n n' : Nat} (hn : n ≤ n') : ∀ {c : CC} {σ : St} {p : XE × St}, denC call G n c σ = some p → denC call' G n' c σ = some p
  | .skip, σ, p, h => by simpa only [denC] using h
  | .exit i, σ, p, h => by simpa only [denC] using h
  | .ret, σ, p, h => by simpa only [denC] using h
  | .bad, σ, p, h => by simp [denC] at h
  | .reg pre suf, σ, p, h => by
    simp only [denC] at h ⊢
    exact bind_mono h (fun _ => denPs_mono hle) fun _ h => bind_mono h (fun _ => denOs_mono hle) fun _ h => h
  | .seq a b, σ, p, h => by
    simp only [denC] at h ⊢
    refine bind_mono h (fun _ => denC_mono hle hn) fun q h => ?_
    obtain ⟨e, σ1⟩ := q
    cases e with
    | normal => exact denC_mono hle hn h
    | exit i => exact h
    | ret => exact h
  | .cond c a b, σ, p, h => by
    simp only [denC] at h ⊢
    split at h
    · rename_i v hv
      cases v with
      | true => exact denC_mono hle hn (c := a) h
      | false => exact denC_mono hle hn (c := b) h
    · cases h
  | .block id a, σ, p, h => by
    simp only [denC] at h ⊢
    exact bind_mono h (fun _ => denC_mono hle hn) fun _ h => h
  | .loop keep a, σ, p, h => by
    simp only [denC] at h ⊢
    have key : ∀ (m m' : Nat) (σ : St), m ≤ m' → denC.rounds keep (denC call G n a) m σ = some p → denC.rounds keep (denC call' G n' a) m' σ = some p := by
      intro m
      induction m with
      | zero => intro m' σ _ h; simp [denC.rounds] at h
      | succ m ih =>
        intro m' σ hm h
        obtain ⟨m', rfl⟩ : ∃ k, m' = k + 1 := ⟨m' - 1, by omega⟩
        simp only [denC.rounds] at h ⊢
        refine bind_mono h (fun _ => denC_mono hle hn) fun q h => ?_
        obtain ⟨e, σ1⟩ := q
        cases e with
        | normal => exact ih m' σ1 (by omega) h
        | exit i => exact h
        | ret => exact h
    exact key n n' σ hn h
theorem denF_mono (hle : LeC call call') {n n' : Nat} (hn : n ≤ n') {cf : CF} {args : List AV} {r : AV} (h : denF call G n cf args = some r) : denF call' G n' cf args = some r := by
  unfold denF at h ⊢
  split at h
  · rename_i hl
    rw [if_pos hl]
    exact bind_mono h (fun _ => denC_mono hle hn) fun _ h => h
  · cases h
theorem denB_mono (hle : LeC call call') {n n' : Nat} (hn : n ≤ n') {cf : CF} {args : List AV} {r : AV} (h : denB call G n cf args = some r) : denB call' G n' cf args = some r := by
  unfold denB at h ⊢
  split at h
  · split at h
    · rename_i hl
      rw [if_pos hl]
      exact bind_mono h (fun _ => denC_mono hle hn) fun _ h => h
    · cases h
  · cases h
theorem denFB_mono (hle : LeC call call') {n n' : Nat} (hn : n ≤ n') {cf : CF} {args : List AV} {r : AV} (h : denFB call G n cf args = some r) : denFB call' G n' cf args = some r := by
  unfold denFB at h ⊢
  cases hd : headL args with
  | true => rw [hd] at h; exact denB_mono hle hn h
  | false => rw [hd] at h; exact denF_mono hle hn h
end
inductive Den (defs : FuncId → Option CF) (prims : Call) (G : Nat → AV) : FuncId → List AV → AV → Prop
  | prim {f : FuncId} {args : List AV} {r : AV} (h : prims f args = some r) : Den defs prims G f args r
  | run {f : FuncId} {args : List AV} {r : AV} {cf : CF} (call : Call) (n : Nat) (hp : prims f args = none) (hd : defs f = some cf) (hc : ∀ f a r, call f a = some r → Den defs prims G f a r) (h : denFB call G n cf args = some r) : Den defs prims G f args r
section
variable {defs : FuncId → Option CF} {prims : Call} {G : Nat → AV}
theorem Den.unique {f : FuncId} {args : List AV} {r : AV} (h : Den defs prims G f args r) : ∀ r', Den defs prims G f args r' → r = r' := by
  induction h with
  | prim h =>
    intro r' h'
    cases h' with
    | prim h' => rw [h] at h'; exact Option.some.inj h'
    | run call n hp => rw [h] at hp; cases hp
  | run call n hp hd hc h ih =>
    intro r' h'
    cases h' with
    | prim h' => rw [hp] at h'; cases h'
    | run call' n' hp' hd' hc' h' =>
      rw [hd] at hd'
      cases hd'
      let both : Call := fun f a => (call f a).or (call' f a)
      have l1 : LeC call both := fun f a r h => by simp [both, h]
      have l2 : LeC call' both := fun f a r h => by
        simp only [both]
        cases hc1 : call f a with
        | none => simpa using h
        | some q => have := ih f a q hc1 r (hc' f a r h); simp [this]
      have e1 := denFB_mono l1 (Nat.le_max_left n n') h
      have e2 := denFB_mono l2 (Nat.le_max_right n n') h'
      rw [e1] at e2
      exact Option.some.inj e2
open Classical in
noncomputable def D (defs : FuncId → Option CF) (prims : Call) (G : Nat → AV) : Call := fun f args => if h : ∃ r, Den defs prims G f args r then some (Classical.choose h) else none
theorem D_iff {f : FuncId} {args : List AV} {r : AV} : D defs prims G f args = some r ↔ Den defs prims G f args r := by
  unfold D
  constructor
  · intro h
    split at h
    · rename_i he
      rw [← Option.some.inj h]
      exact Classical.choose_spec he
    · cases h
  · intro h
    rw [dif_pos ⟨r, h⟩]
    exact congrArg some ((Classical.choose_spec (⟨r, h⟩ : ∃ r, Den defs prims G f args r)) |>.unique r h)
theorem D_run {f : FuncId} {args : List AV} {r : AV} {cf : CF} {n : Nat} (hp : prims f args = none) (hd : defs f = some cf) (hl : headL args = false) (h : denF (D defs prims G) G n cf args = some r) : D defs prims G f args = some r :=
  D_iff.2 (.run (D defs prims G) n hp hd (fun _ _ _ h => D_iff.1 h) (by unfold denFB; rw [hl]; exact h))
theorem D_runB {f : FuncId} {ls as : List AV} {r : AV} {cf : CF} {n : Nat} (hp : prims f (.tup ls :: as) = none) (hd : defs f = some cf) (h : denB (D defs prims G) G n cf (.tup ls :: as) = some r) : D defs prims G f (.tup ls :: as) = some r :=
  D_iff.2 (.run (D defs prims G) n hp hd (fun _ _ _ h => D_iff.1 h) h)
theorem D_prim {f : FuncId} {args : List AV} {r : AV} (h : prims f args = some r) : D defs prims G f args = some r := D_iff.2 (.prim h)
def DefsOk (P : Program) (defs : FuncId → Option CF) : Prop := ∀ f cf, defs f = some cf → ∃ fn ow, P.funcs[f]? = some fn ∧ (fn.name == "runtime.NumGoroutine") = false ∧ cF P ow fn = some { cf with code := eraseK cf.code }
theorem D_sound {P : Program} (hm : P.follows .mixedOrders = true) (hd : DefsOk P defs) (hp : CallOk2 P G prims) : CallOk2 P G (D defs prims G) := by
  have key : ∀ f args r, Den defs prims G f args r → Enters P f ∧ (∀ (w : World) (S : Nat → Nat → Prop) (vargs : Array Value), (∀ b i, S b i → b < w.heap.size) → GlobOk G w S → vargs.size = args.length →
    (∀ (i : Nat) (c : AV) (x : Value), args[i]? = some c → vargs[i]? = some x → FRep w S c x) →
    Calls P f vargs w fun e w' => ∃ y, e = .returned y ∧ Below w.heap.size w w' ∧ RRep w (.fix S) r y w') ∧
    ∀ ls as, args = .tup ls :: as → ∀ (w : World) (S : Sb) (vargs : Array Value) (sv : Nat → Value) (ν0 : Key → Option (Nat × Nat)), Given G w S ls as vargs sv ν0 →
    Calls P f vargs w fun e w' => ∃ l ys, e = .returned (packV ys) ∧ r = .tup l ∧ l.length = ys.length + ls.length ∧ Bel S.O w w' ∧
      (∀ b i, S.O b → S.S b i → w'.cell? ⟨b, i, none⟩ = w.cell? ⟨b, i, none⟩) ∧ (∀ r ∈ l, (cellsOf r).length ≤ 100) ∧ ∀ d j, d < 1000000 → ∃ ν, Back w S ls sv ν0 l ys w' d j ν := by
    intro f args r h
    induction h with
    | prim h =>
      obtain ⟨h1, h2⟩ := hp.1 _ _ _ h
      refine ⟨h1, h2, fun ls as e => ?_⟩
      subst e
      exact (hp.2 _ _ _ _ h).2
    | @run f args r cf call n hpn hdf hc h ih =>
      obtain ⟨fn, ow, h1, h2, h3⟩ := hd _ _ hdf
      have hcall : CallOk2 P G call := ⟨fun f a r h => ⟨(ih f a r h).1, (ih f a r h).2.1⟩, fun f ls as r h => ⟨(ih f _ r h).1, (ih f _ r h).2.2 ls as rfl⟩⟩
      refine ⟨⟨fn, h1, h2, ?_⟩, fun w S vargs hS hG hl ha => ?_, fun ls as e w S vargs sv ν0 H => ?_⟩
      · unfold cF at h3
        cases hb : fn.body with
        | none => rw [hb] at h3; cases h3
        | some b => rfl
      · cases hh : headL args with
        | false =>
          unfold denFB at h
          rw [hh] at h
          exact F_sound hm hcall h1 h3 h hS hG hl ha
        | true =>
          exfalso
          cases args with
          | nil => cases hh
          | cons x l =>
            cases x <;> first | (cases hh; done) | skip
            rename_i ls
            have := ha 0 _ (vargs[0]'(by rw [hl]; exact Nat.succ_pos _)) rfl (Array.getElem?_eq_getElem _)
            cases this
      · subst e
        exact F_soundL hm hcall h1 h3 h H
  exact ⟨fun f args r h => ⟨(key f args r (D_iff.1 h)).1, (key f args r (D_iff.1 h)).2.1⟩, fun f ls as r h => ⟨(key f _ r (D_iff.1 h)).1, (key f _ r (D_iff.1 h)).2.2 ls as rfl⟩⟩
theorem CallOk.two {P : Program} (h : CallOk P G prims) (hn : ∀ f ls as, prims f (.tup ls :: as) = none) : CallOk2 P G prims := ⟨h, fun f ls as r hr => by rw [hn] at hr; cases hr⟩
end
end Go.Proofs.YtmhdapjmndfkgaaGreatDoor.Eng
namespace Go.Proofs.YtmhdapjmndfkgaaGreatDoor.Eng
open Go
section
variable {t : List AV} {G : Nat → AV} {d i : Nat} {x : AV}
theorem ev_c (a : AV) : ev t G (.c a) = a := rfl
theorem ev_hit (h : i < t.length) : ev (t.set i x) G (.t i) = x := by
  simp [ev, List.getD_eq_getElem?_getD, h]
theorem ev_miss (h : (d == i) = false) : ev (t.set d x) G (.t i) = ev t G (.t i) := by
  have : d ≠ i := by simpa using h
  simp [ev, List.getD_eq_getElem?_getD, List.getElem?_set_ne this]
theorem ev_hd {l : List AV} : ev (x :: l) G (.t 0) = x := rfl
theorem ev_tl {l : List AV} : ev (x :: l) G (.t (i + 1)) = ev l G (.t i) := rfl
theorem getD_hit {u : AV} (h : i < t.length) : (t.set i x).getD i u = x := by simp [List.getD_eq_getElem?_getD, h]
theorem getD_miss {u : AV} (h : (d == i) = false) : (t.set d x).getD i u = t.getD i u := by
  have : d ≠ i := by simpa using h
  simp [List.getD_eq_getElem?_getD, List.getElem?_set_ne this]
theorem ite_bind {α β : Type} {p : Prop} [Decidable p] {a b : Option α} {f : α → Option β} : (if p then a else b).bind f = if p then a.bind f else b.bind f := by split <;> rfl
theorem denF_of {call : Call} {n : Nat} {f : CF} {args : List AV} {r : AV} (hl : args.length = f.nargs) (hn : args.length ≤ f.ntmps)
    (h : ∀ T : List AV, T.length = f.ntmps → (∀ i, i < args.length → ev T G (.t i) = args.getD i .undef) → ((denC call G n f.code { t := T, o := [] }).bind fun p => match p with
      | (.exit _, _) => none
      | (_, σ) => (getRs σ f.res).bind fun rs => outF σ rs) = some r) : denF call G n f args = some r := by
  unfold denF
  rw [if_pos hl]
  refine h _ (by simp; omega) fun i hi => ?_
  simp [ev, List.getD_eq_getElem?_getD, List.getElem?_append_left hi]
theorem ev_getD {i : Nat} : t.getD i .undef = ev t G (.t i) := rfl
end
end Go.Proofs.YtmhdapjmndfkgaaGreatDoor.Eng
namespace Go.Proofs.YtmhdapjmndfkgaaGreatDoor.Eng
open Go Go.RowKit
inductive AvT (P : Program) : TypeId → List AV → Prop
  | bool {t : TypeId} {b : Bool} (h : P.underlying t = some .bool) : AvT P t [.v (.bool b)]
  | int {t : TypeId} {k : IntKind} {n : Int} (h : P.underlying t = some (.int k)) (hw : (Lit.int k n).wf = true) : AvT P t [.v (.int k n)]
  | str {t : TypeId} {s : ByteArray} (h : P.underlying t = some .string) (hs : s.size ≤ 140737488351232) : AvT P t [.v (.string s)]
  | slice {t e : TypeId} {es : List (List AV)} (h : P.underlying t = some (.slice e)) (hl : es.length * P.bytesOf e ≤ 140737488351232) (he : ∀ c ∈ es, AvT P e c) : AvT P t [.fsl es]
  | struct {t : TypeId} {fs : Array Field} {ps : List (List AV)} (h : P.underlying t = some (.struct fs)) (hn : ps.length = fs.size) (he : ∀ (i : Nat) (f : Field) (p : List AV), fs[i]? = some f → ps[i]? = some p → AvT P f.type p) : AvT P t ps.flatten
  | array {t e : TypeId} {n : Nat} {ps : List (List AV)} (h : P.underlying t = some (.array n e)) (hn : ps.length = n) (he : ∀ c ∈ ps, AvT P e c) : AvT P t ps.flatten
def rowB (P : Program) (ts : List TypeId) : Nat → List (TypeId × Nat) → Nat → Bool
  | off, [], tot => off == tot
  | off, (t, o) :: l, tot => o == off && ts.contains t && rowB P ts (off + P.cellsOf t) l tot
def layB (P : Program) (ts : List TypeId) (t : TypeId) : Bool := match P.underlying t with
  | some .bool | some (.int _) | some .string => P.cellsOf t == 1
  | some (.slice e) => P.cellsOf t == 1 && decide (0 < P.cellsOf e) && ts.contains e
  | some (.array n e) => rowB P ts 0 ((List.range n).map fun i => (e, i * P.cellsOf e)) (P.cellsOf t)
  | some (.struct fs) => rowB P ts 0 (fs.toList.map fun f => (f.type, f.offset)) (P.cellsOf t)
  | _ => false
theorem weights_in {P : Program} {H : Type} {e : TypeId} : ∀ {ds : List (DataW H)} {d : DataW H}, d ∈ ds → ∀ n ∈ d.weights P e, n ∈ DataW.weightsAll P e ds
  | x :: r, d, hd, n, hn => by
    simp only [DataW.weightsAll, List.mem_append]
    rcases List.mem_cons.1 hd with rfl | h
    · exact .inl hn
    · exact .inr (weights_in h n hn)
theorem weights_at {P : Program} {H : Type} : ∀ {ts : List TypeId} {ds : List (DataW H)} {j : Nat} {t : TypeId} {d : DataW H}, ts[j]? = some t → ds[j]? = some d → ∀ n ∈ d.weights P t, n ∈ DataW.weightsEach P ts ds
  | [], _, j, t, d, ht, _, n, hn => by simp at ht
  | _ :: _, [], j, t, d, _, hd, n, hn => by simp at hd
  | t0 :: ts, d0 :: ds, 0, t, d, ht, hd, n, hn => by
    simp only [List.getElem?_cons_zero, Option.some.injEq] at ht hd
    subst ht hd
    simp only [DataW.weightsEach, List.mem_append]
    exact .inl hn
  | t0 :: ts, d0 :: ds, j + 1, t, d, ht, hd, n, hn => by
    simp only [List.getElem?_cons_succ] at ht hd
    simp only [DataW.weightsEach, List.mem_append]
    exact .inr (weights_at ht hd n hn)
theorem pick_list {α : Type} (n : Nat) (Q : Nat → α → Prop) (h : ∀ i, i < n → ∃ x, Q i x) : ∃ xs : List α, xs.length = n ∧ ∀ i x, xs[i]? = some x → Q i x := by
  induction n with
  | zero => exact ⟨[], rfl, fun i x hx => by simp at hx⟩
  | succ n ih =>
    obtain ⟨xs, hl, hq⟩ := ih (fun i hi => h i (by omega))
    obtain ⟨x, hx⟩ := h n (by omega)
    refine ⟨xs ++ [x], by simp [hl], fun i y hy => ?_⟩
    by_cases c : i < n
    · rw [List.getElem?_append_left (by omega)] at hy
      exact hq i y hy
    · have hi : i = n := by
        have := (List.getElem?_eq_some_iff.1 hy).1
        simp [hl] at this; omega
      subst hi
      rw [List.getElem?_append_right (by omega), hl] at hy
      simp at hy
      subst hy
      exact hx
section
variable {P : Program} {w : World}
def All (w : World) : Nat → Nat → Prop := fun b _ => b < w.heap.size
theorem cells_get {a : Addr} {n : Nat} {cs : List Value} (h : w.cells? 0 a n = some cs) : cs.length = n ∧ ∀ i u, cs[i]? = some u → w.cell? (a.add i) = some u := by
  unfold World.cells? at h
  rw [if_pos (Nat.zero_le _)] at h
  have hl : cs.length = n := by have := Lib.mapM_length h; simpa using this
  refine ⟨hl, fun i u hu => ?_⟩
  have hi : i < n := by have := (List.getElem?_eq_some_iff.1 hu).1; omega
  obtain ⟨b, hb, hc⟩ := Lib.mapM_at h i i (by simp [hi])
  rw [hu] at hb
  obtain rfl := Option.some.inj hb
  exact hc
theorem cell_in {a : Addr} {x : Value} (h : w.cell? a = some x) : a.block < w.heap.size ∧ a.spot = none := by
  unfold World.cell? at h
  split at h
  · rename_i c _ _ hb
    split at h
    · cases h
    · rename_i hs
      exact ⟨(Array.getElem?_eq_some_iff.1 hb).1, by simpa using hs⟩
  · cases h
def CellR (w : World) (l : List AV) (cs : List Value) : Prop := l.length = cs.length ∧ ∀ (j : Nat) (c : AV) (x : Value), l[j]? = some c → cs[j]? = some x → FRep w (All w) c x ∧ atom c = true
theorem row_open {ts : List TypeId} {cs : List Value} : ∀ (r : List (TypeId × Nat)) (off tot : Nat), rowB P ts off r tot = true → cs.length = tot → off ≤ tot → (∀ (i : Nat) (t : TypeId) (o : Nat), r[i]? = some (t, o) → ∃ l, AvT P t l ∧ CellR w l ((cs.drop o).take (P.cellsOf t)) ∧ l.length = P.cellsOf t) →
    ∃ ps : List (List AV), ps.length = r.length ∧ (∀ (i : Nat) (t : TypeId) (o : Nat) (p : List AV), r[i]? = some (t, o) → ps[i]? = some p → AvT P t p) ∧ CellR w ps.flatten (cs.drop off)
  | [], off, tot, h, hl, ho, _ => by
    simp only [rowB, beq_iff_eq] at h
    refine ⟨[], rfl, fun i t o p h => by simp at h, by simp [hl, h], fun j c x h => by simp at h⟩
  | (t, o) :: r, off, tot, h, hl, ho, hf => by
    simp only [rowB, Bool.and_eq_true, beq_iff_eq] at h
    obtain ⟨⟨rfl, ht⟩, h⟩ := h
    obtain ⟨l, h1, h2, h3⟩ := hf 0 t o rfl
    have hlen : o + P.cellsOf t ≤ tot := by
      have := h2.1
      rw [h3] at this
      simp at this
      omega
    obtain ⟨ps, h4, h5, h6⟩ := row_open r (o + P.cellsOf t) tot h hl hlen (fun i t' o' hi => hf (i + 1) t' o' (by simpa using hi))
    refine ⟨l :: ps, by simp [h4], fun i t' o' p hi hp => ?_, ?_, fun j c x hj hx => ?_⟩
    · cases i with
      | zero => simp at hi hp; obtain ⟨rfl, rfl⟩ := hi; subst hp; exact h1
      | succ i => exact h5 i t' o' p (by simpa using hi) (by simpa using hp)
    · have := h6.1
      simp only [List.flatten_cons, List.length_append, this, h3, List.length_drop]
      omega
    · rw [List.flatten_cons] at hj
      by_cases hlt : j < l.length
      · rw [List.getElem?_append_left hlt] at hj
        refine h2.2 j c x hj ?_
        rw [List.getElem?_take_of_lt (by omega)]
        exact hx
      · rw [List.getElem?_append_right (by omega)] at hj
        refine h6.2 _ c x hj ?_
        rw [List.getElem?_drop] at hx ⊢
        rw [← hx]
        congr 1
        omega
theorem trod_open {ts : List TypeId} (hts : ts.all (layB P ts) = true) {H : Type} {enc : TypeId × Value → H} : ∀ (fuel : Nat) (t : TypeId) (cs : List Value) (d : DataW H) (p : List MemPlace), ts.contains t = true → DataW.trod enc P w 0 (fun _ => true) true fuel t cs = some (d, p) →
    (∀ n ∈ d.weights P t, n ≤ 140737488351232) → ∃ l, AvT P t l ∧ CellR w l cs ∧ l.length = P.cellsOf t
  | 0, t, cs, d, p, _, h, _ => by simp [DataW.trod] at h
  | fuel + 1, t, cs, d, p, ht, h, hw => by
    have hlay := List.all_eq_true.1 hts t (List.contains_iff_mem.1 ht)
    unfold layB at hlay
    have one : ∀ (c : AV) (x : Value), FRep w (All w) c x → atom c = true → CellR w [c] [x] := by
      intro c x hr ha
      refine ⟨rfl, fun j c' x' hj hx => ?_⟩
      match j with
      | 0 => simp at hj hx; subst hj hx; exact ⟨hr, ha⟩
      | j + 1 => simp at hj
    split at hlay
    · rename_i hu
      have hc : P.cellsOf t = 1 := by simpa using hlay
      match cs with
      | [] => simp [DataW.trod, hu] at h
      | c :: c1 :: r => simp [DataW.trod, hu] at h
      | [c] =>
        cases c <;> simp [DataW.trod, hu] at h
        exact ⟨_, .bool hu, one _ _ (.v rfl) rfl, by simp [hc]⟩
    · rename_i k hu
      have hc : P.cellsOf t = 1 := by simpa using hlay
      match cs with
      | [] => simp [DataW.trod, hu] at h
      | c :: c1 :: r => simp [DataW.trod, hu] at h
      | [c] =>
        cases c <;> simp [DataW.trod, hu] at h
        obtain ⟨⟨rfl, hwf⟩, _⟩ := h
        exact ⟨_, .int hu hwf, one _ _ (.v rfl) rfl, by simp [hc]⟩
    · rename_i hu
      have hc : P.cellsOf t = 1 := by simpa using hlay
      match cs with
      | [] => simp [DataW.trod, hu] at h
      | c :: c1 :: r => simp [DataW.trod, hu] at h
      | [c] =>
        cases c <;> simp [DataW.trod, hu] at h
        rename_i s
        obtain ⟨_, rfl, _⟩ := h
        have hsz := hw s.data.toList.length (by simp [DataW.weights])
        rw [Array.length_toList] at hsz
        exact ⟨_, .str hu hsz, one _ _ (.v rfl) rfl, by simp [hc]⟩
    · rename_i e hu
      simp only [Bool.and_eq_true, beq_iff_eq, decide_eq_true_eq] at hlay
      obtain ⟨⟨hc, he0⟩, hets⟩ := hlay
      match cs with
      | [] => simp [DataW.trod, hu] at h
      | c :: c1 :: r => simp [DataW.trod, hu] at h
      | [c] =>
        cases c <;> try (simp [DataW.trod, hu] at h; done)
        rename_i A len cap
        cases A with
        | none =>
          have hz : len = 0 ∧ cap = 0 := by
            cases len <;> cases cap <;> simp [DataW.trod, hu] at h <;> exact ⟨rfl, rfl⟩
          obtain ⟨rfl, rfl⟩ := hz
          exact ⟨[.fsl []], .slice hu (by simp) (by simp), one _ _ .nil rfl, by simp [hc]⟩
        | some a =>
          simp only [DataW.trod, hu] at h
          split at h
          · rename_i hb
            obtain ⟨elems, hel, h2⟩ := Option.bind_eq_some_iff.1 h
            obtain ⟨rest, hrest, h3⟩ := Option.map_eq_some_iff.1 h2
            obtain ⟨rfl, _⟩ := Prod.mk.inj h3
            have hll : elems.length = len := by have := Lib.mapM_length hel; simpa using this
            have hone : ∀ i, i < len → ∃ q : List AV × List Value, AvT P e q.1 ∧ CellR w q.1 q.2 ∧ q.1.length = P.cellsOf e ∧ w.cells? 0 (a.add (i * P.cellsOf e)) (P.cellsOf e) = some q.2 := by
              intro i hi
              obtain ⟨y, hy, hf⟩ := Lib.mapM_at hel i i (by simp [hi])
              obtain ⟨c, hcc, htr⟩ := Option.bind_eq_some_iff.1 hf
              have hm : y.1 ∈ elems.map (·.1) := List.mem_map.2 ⟨y, List.mem_of_getElem? hy, rfl⟩
              obtain ⟨l, h4, h5, h6⟩ := trod_open hts fuel e c y.1 y.2 hets htr (fun n hn => hw n (by
                simp only [DataW.weights, hu, List.mem_cons, List.mem_append]
                exact .inr (.inl (weights_in hm n hn))))
              exact ⟨(l, c), h4, h5, h6, hcc⟩
            obtain ⟨qs, hq1, hq2⟩ := pick_list len _ hone
            have hbytes : len * P.bytesOf e ≤ 140737488351232 := by
              have := hw ((elems.map (·.1)).length * P.bytesOf e + (rest.map (·.1)).length * P.bytesOf e) (by
                simp only [DataW.weights, hu, List.mem_cons, ← Nat.add_mul]
                exact .inl trivial)
              simp only [List.length_map, hll] at this
              omega
            refine ⟨[.fsl (qs.map (·.1))], .slice hu (by rw [List.length_map, hq1]; exact hbytes) (fun c hc => ?_), one _ _ ?_ rfl, by simp [hc]⟩
            · obtain ⟨q, hq, rfl⟩ := List.mem_map.1 hc
              obtain ⟨i, hi, rfl⟩ := List.mem_iff_getElem.1 hq
              exact (hq2 i _ (List.getElem?_eq_getElem hi)).1
            · have hlen : (qs.map (·.1)).length = len := by simp [hq1]
              cases hlz : len with
              | zero =>
                have : qs = [] := List.length_eq_zero_iff.1 (by omega)
                subst this
                exact .emp
              | succ n =>
                have cellAt : ∀ (i : Nat) (q : List AV × List Value), qs[i]? = some q → ∀ (j : Nat) (u : Value), q.2[j]? = some u → w.cell? ((a.add (i * P.cellsOf e)).add j) = some u := fun i q hq j u hu => (cells_get (hq2 i q hq).2.2.2).2 j u hu
                have h0 : 0 < qs.length := by omega
                have hq0 := hq2 0 _ (List.getElem?_eq_getElem h0)
                have hl0 := (cells_get hq0.2.2.2).1
                have hspot := cell_in (cellAt 0 _ (List.getElem?_eq_getElem h0) 0 _ (List.getElem?_eq_getElem (by omega)))
                have ha : a = ⟨a.block, a.off, none⟩ := by
                  have := hspot.2
                  simp [Addr.add] at this
                  cases a; simp_all
                rw [ha]
                have hlen' : (qs.map (·.1)).length = n + 1 := by omega
                rw [← hlen']
                have get : ∀ (i : Nat) (el : List AV) (j : Nat) (c : AV), (qs.map (·.1))[i]? = some el → el[j]? = some c → ∃ q u, qs[i]? = some q ∧ q.1 = el ∧ q.2[j]? = some u ∧ FRep w (All w) c u ∧ atom c = true ∧ w.cell? ⟨a.block, a.off + (i * P.cellsOf e + j), none⟩ = some u := by
                  intro i el j c hi hj
                  rw [List.getElem?_map, Option.map_eq_some_iff] at hi
                  obtain ⟨q, hq, rfl⟩ := hi
                  have hcr := (hq2 i q hq).2.1
                  have hjlt : j < q.2.length := by rw [← hcr.1]; exact (List.getElem?_eq_some_iff.1 hj).1
                  have hu' := List.getElem?_eq_getElem hjlt
                  obtain ⟨h7, h8⟩ := hcr.2 j c _ hj hu'
                  refine ⟨q, _, hq, rfl, hu', h7, h8, ?_⟩
                  have := cellAt i q hq j _ hu'
                  rw [ha, addr_add, addr_add] at this
                  rw [← Nat.add_assoc]
                  exact this
                refine .sl (sz := P.cellsOf e) (fun i j => (((qs.map (·.2)).getD i []).getD j default)) (by omega) (fun i el hi => ?_) (fun i el j c hi hj => ?_) (fun i el j c hi hj => ?_)
                · rw [List.getElem?_map, Option.map_eq_some_iff] at hi
                  obtain ⟨q, hq, rfl⟩ := hi
                  exact (hq2 i q hq).2.2.1
                · obtain ⟨q, u, g1, g2, g3, g4, g5, g6⟩ := get i el j c hi hj
                  have : ((qs.map (·.2)).getD i []).getD j default = u := by simp [List.getD_eq_getElem?_getD, g1, g3]
                  rw [this]
                  exact ⟨(cell_in g6).1, g6, g5⟩
                · obtain ⟨q, u, g1, g2, g3, g4, g5, g6⟩ := get i el j c hi hj
                  have : ((qs.map (·.2)).getD i []).getD j default = u := by simp [List.getD_eq_getElem?_getD, g1, g3]
                  rw [this]
                  exact g4
          · cases h
    · rename_i n e hu
      simp only [DataW.trod, hu] at h
      split at h
      · rename_i hcl
        obtain ⟨xs, hxs, h3⟩ := Option.map_eq_some_iff.1 h
        obtain ⟨rfl, _⟩ := Prod.mk.inj h3
        have hets : ∀ i, i < n → ts.contains e = true := by
          intro i hi
          cases n with
          | zero => omega
          | succ n =>
            rw [List.range_succ_eq_map] at hlay
            simp only [List.map_cons, rowB, Bool.and_eq_true] at hlay
            exact hlay.1.2
        obtain ⟨ps, h4, h5, h6⟩ := row_open (P := P) (w := w) (cs := cs) _ 0 _ hlay hcl (Nat.zero_le _) (fun i t' o' hi => by
          rw [List.getElem?_map, Option.map_eq_some_iff] at hi
          obtain ⟨i', hi', he⟩ := hi
          have hin : i < n := by have := (List.getElem?_eq_some_iff.1 hi').1; simpa using this
          rw [List.getElem?_range hin] at hi'
          cases hi'
          cases he
          obtain ⟨y, hy, hf⟩ := Lib.mapM_at hxs i i (by simp [hin])
          have hm : y.1 ∈ xs.map (·.1) := List.mem_map.2 ⟨y, List.mem_of_getElem? hy, rfl⟩
          exact trod_open hts fuel e _ y.1 y.2 (hets i hin) hf (fun n hn => hw n (by
            simp only [DataW.weights, hu]
            exact weights_in hm n hn)))
        refine ⟨ps.flatten, .array hu (by simpa using h4) (fun c hc => ?_), h6, by rw [h6.1]; simpa using hcl⟩
        obtain ⟨i, hi, rfl⟩ := List.mem_iff_getElem.1 hc
        have hin : i < n := by simpa [h4] using hi
        exact h5 i e (i * P.cellsOf e) _ (by simp [hin]) (List.getElem?_eq_getElem hi)
      · cases h
    · rename_i fs hu
      simp only [DataW.trod, hu] at h
      split at h
      · rename_i hcl
        obtain ⟨xs, hxs, h3⟩ := Option.map_eq_some_iff.1 h
        obtain ⟨rfl, _⟩ := Prod.mk.inj h3
        have hin : ∀ (r : List (TypeId × Nat)) (off tot : Nat), rowB P ts off r tot = true → ∀ (i : Nat) (t : TypeId) (o : Nat), r[i]? = some (t, o) → ts.contains t = true := by
          intro r
          induction r with
          | nil => intro off tot _ i t o h; simp at h
          | cons x r ih =>
            intro off tot h i t o hi
            obtain ⟨t0, o0⟩ := x
            simp only [rowB, Bool.and_eq_true] at h
            cases i with
            | zero => simp at hi; obtain ⟨rfl, rfl⟩ := hi; exact h.1.2
            | succ i => exact ih _ _ h.2 i t o (by simpa using hi)
        obtain ⟨ps, h4, h5, h6⟩ := row_open (P := P) (w := w) (cs := cs) _ 0 _ hlay hcl (Nat.zero_le _) (fun i t' o' hi => by
          have hts' := hin _ _ _ hlay i t' o' hi
          rw [List.getElem?_map, Option.map_eq_some_iff] at hi
          obtain ⟨f, hf, he⟩ := hi
          cases he
          obtain ⟨y, hy, hf'⟩ := Lib.mapM_at hxs i f hf
          exact trod_open hts fuel f.type _ y.1 y.2 hts' hf' (fun n hn => hw n (by
            simp only [DataW.weights, hu]
            exact weights_at (j := i) (by simp [hf]) (by simp [hy]) n hn)))
        refine ⟨ps.flatten, .struct hu (by simpa using h4) (fun i f p hf hp => ?_), h6, by rw [h6.1]; simpa using hcl⟩
        exact h5 i f.type f.offset p (by simp [Array.getElem?_toList, hf]) hp
      · cases h
    · cases hlay
end
end Go.Proofs.YtmhdapjmndfkgaaGreatDoor.Eng
