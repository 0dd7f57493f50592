/- The engine: small code, what it comes to, and that a program's calls come to it; part 6. No condition. -/
import Derived.Test.YtmhdapjmndfkgaaGreatDoorEng5
import Derived.ProofKit
set_option linter.unusedVariables false
set_option linter.unusedSimpArgs false
namespace Go.Proofs.YtmhdapjmndfkgaaGreatDoor.Eng
open Go Go.RowKit
section
variable {P : Program} {w : World}
def argA (ag : Bool) (l : List AV) : AV := if ag then .agg l else l.headD .undef
theorem arg_open {ts : List TypeId} (hts : ts.all (layB P ts) = true) {H : Type} {enc : TypeId × Value → H} {t : TypeId} {v : Value} {d : DataW H} {p : List MemPlace} {ag : Bool} {r : Reach} {base : Nat} (ht : ts.contains t = true) (hag : aggT P t = some ag)
    (hv : Value.okWide P w r base t v) (h : DataW.Trod enc P w 0 (fun _ => true) true t v d p) (hw : ∀ n ∈ d.weights P t, n ≤ 140737488351232) : ∃ l, AvT P t l ∧ FRep w (All w) (argA ag l) v := by
  obtain ⟨fuel, hf⟩ := h
  obtain ⟨l, h1, h2, h3⟩ := trod_open hts fuel t v.cells.toList d p ht hf hw
  refine ⟨l, h1, ?_⟩
  have hlay := List.all_eq_true.1 hts t (List.contains_iff_mem.1 ht)
  unfold layB at hlay
  unfold aggT at hag
  have big : (∃ cs : Array Value, v = .agg cs) → FRep w (All w) (.agg l) v := by
    rintro ⟨cs, rfl⟩
    have hc : l.length = cs.size := by have := h2.1; simpa [Value.cells] using this
    refine .agg (fun j => cs.getD j default) hc.symm (fun j c hj => ?_) (fun j c hj => ?_)
    · have hlt : j < cs.size := by rw [← hc]; exact (List.getElem?_eq_some_iff.1 hj).1
      have hx : cs[j]? = some (cs.getD j default) := by simp [Array.getD, hlt]
      exact ⟨hx, (h2.2 j c _ hj (by simpa [Value.cells] using hx)).2⟩
    · have hlt : j < cs.size := by rw [← hc]; exact (List.getElem?_eq_some_iff.1 hj).1
      have hx : cs[j]? = some (cs.getD j default) := by simp [Array.getD, hlt]
      exact (h2.2 j c _ hj (by simpa [Value.cells] using hx)).1
  have small : P.cellsOf t = 1 → v.oneCell = true → FRep w (All w) (l.headD .undef) v := by
    intro hc ho
    match l, h3 with
    | [c], _ =>
      refine (h2.2 0 c v rfl ?_).1
      cases v <;> first | rfl | (simp [Value.oneCell] at ho)
    | [], h3 => simp at h3; omega
    | _ :: _ :: _, h3 => simp at h3; omega
  split at hlay
  · rename_i hu
    rw [hu] at hag
    simp at hag
    subst hag
    refine small (by simpa using hlay) ?_
    cases v <;> first | rfl | (simp [Value.okWide, hu, Cell.okWide, Cell.ok] at hv)
  · rename_i k hu
    rw [hu] at hag
    simp at hag
    subst hag
    refine small (by simpa using hlay) ?_
    cases v <;> first | rfl | (simp [Value.okWide, hu, Cell.okWide, Cell.ok] at hv)
  · rename_i hu
    rw [hu] at hag
    simp at hag
    subst hag
    refine small (by simpa using hlay) ?_
    cases v <;> first | rfl | (simp [Value.okWide, hu, Cell.okWide, Cell.ok] at hv)
  · rename_i e hu
    rw [hu] at hag
    simp at hag
    subst hag
    simp only [Bool.and_eq_true, beq_iff_eq] at hlay
    refine small hlay.1.1 ?_
    cases v <;> first | rfl | (simp [Value.okWide, hu, Cell.okWide, Cell.ok] at hv)
  · rename_i n e hu
    rw [hu] at hag
    simp at hag
    subst hag
    simp only [Value.okWide, hu] at hv
    obtain ⟨cs, h4, _⟩ := hv
    exact big ⟨cs, h4⟩
  · rename_i fs hu
    rw [hu] at hag
    simp at hag
    subst hag
    simp only [Value.okWide, hu] at hv
    obtain ⟨cs, h4, _⟩ := hv
    exact big ⟨cs, h4⟩
  · cases hlay
theorem law_calls {defs : FuncId → Option CF} {prims : Call} {G : Nat → AV} (hm : P.follows .mixedOrders = true) (hd : DefsOk P defs) (hp : CallOk2 P G prims) (hG : GlobOk G w (All w)) {f : FuncId} {args : List AV} {vargs : Array Value}
    (h : D defs prims G f args = some (.v (.bool true))) (hl : vargs.size = args.length) (ha : ∀ (i : Nat) (c : AV) (x : Value), args[i]? = some c → vargs[i]? = some x → FRep w (All w) c x) :
    Calls P f vargs w fun e w' => e = .returned (.bool true) ∧ Below w.heap.size w w' := by
  obtain ⟨_, hc⟩ := (D_sound hm hd hp).1 f args _ h
  refine (hc w (All w) vargs (fun b i h => h) hG hl ha).mono fun e w' ⟨y, he, hb, hr⟩ => ?_
  obtain ⟨ν, _, _, _, h4⟩ := hr 0 0
  have : y = .bool true := h4.v_inv
  subst this
  exact ⟨he, hb⟩
theorem noGlob {w : World} {S : Nat → Nat → Prop} : GlobOk (fun _ => .undef) w S := ⟨fun _ => .inl rfl, fun n cs h => by cases h⟩
theorem noPrims {G : Nat → AV} : CallOk2 P G fun _ _ => none := ⟨fun f args r h => (by cases h), fun f ls as r h => (by cases h)⟩
end
end Go.Proofs.YtmhdapjmndfkgaaGreatDoor.Eng
namespace Go.Proofs.YtmhdapjmndfkgaaGreatDoor.Eng
open Go Go.RowKit
section
variable {P : Program} {t e : TypeId} {l : List AV}
theorem AvT.int_inv {k : IntKind} (hu : P.underlying t = some (.int k)) (h : AvT P t l) : ∃ n, l = [.v (.int k n)] ∧ (Lit.int k n).wf = true := by
  cases h with
  | @int t' k' n h hw => rw [hu] at h; cases h; exact ⟨n, rfl, hw⟩
  | bool h => rw [hu] at h; cases h
  | str h => rw [hu] at h; cases h
  | slice h => rw [hu] at h; cases h
  | struct h => rw [hu] at h; cases h
  | array h => rw [hu] at h; cases h
theorem AvT.bool_inv (hu : P.underlying t = some .bool) (h : AvT P t l) : ∃ b, l = [.v (.bool b)] := by
  cases h with
  | @bool t' b h => exact ⟨b, rfl⟩
  | int h => rw [hu] at h; cases h
  | str h => rw [hu] at h; cases h
  | slice h => rw [hu] at h; cases h
  | struct h => rw [hu] at h; cases h
  | array h => rw [hu] at h; cases h
theorem AvT.str_inv (hu : P.underlying t = some .string) (h : AvT P t l) : ∃ s : ByteArray, l = [.v (.string s)] ∧ s.size ≤ 140737488351232 := by
  cases h with
  | @str t' s h hs => exact ⟨s, rfl, hs⟩
  | int h => rw [hu] at h; cases h
  | bool h => rw [hu] at h; cases h
  | slice h => rw [hu] at h; cases h
  | struct h => rw [hu] at h; cases h
  | array h => rw [hu] at h; cases h
theorem AvT.slice_inv (hu : P.underlying t = some (.slice e)) (h : AvT P t l) : ∃ es, l = [.fsl es] ∧ es.length * P.bytesOf e ≤ 140737488351232 ∧ ∀ c ∈ es, AvT P e c := by
  cases h with
  | @slice t' e' es h hl he => rw [hu] at h; cases h; exact ⟨es, rfl, hl, he⟩
  | int h => rw [hu] at h; cases h
  | bool h => rw [hu] at h; cases h
  | str h => rw [hu] at h; cases h
  | struct h => rw [hu] at h; cases h
  | array h => rw [hu] at h; cases h
theorem AvT.struct_inv {fs : Array Field} (hu : P.underlying t = some (.struct fs)) (h : AvT P t l) : ∃ ps : List (List AV), l = ps.flatten ∧ ps.length = fs.size ∧ ∀ (i : Nat) (f : Field) (p : List AV), fs[i]? = some f → ps[i]? = some p → AvT P f.type p := by
  cases h with
  | @struct t' fs' ps h hn he => rw [hu] at h; cases h; exact ⟨ps, rfl, hn, he⟩
  | int h => rw [hu] at h; cases h
  | bool h => rw [hu] at h; cases h
  | str h => rw [hu] at h; cases h
  | slice h => rw [hu] at h; cases h
  | array h => rw [hu] at h; cases h
theorem AvT.array_inv {n : Nat} (hu : P.underlying t = some (.array n e)) (h : AvT P t l) : ∃ ps : List (List AV), l = ps.flatten ∧ ps.length = n ∧ ∀ c ∈ ps, AvT P e c := by
  cases h with
  | @array t' e' n' ps h hn he => rw [hu] at h; cases h; exact ⟨ps, rfl, hn, he⟩
  | int h => rw [hu] at h; cases h
  | bool h => rw [hu] at h; cases h
  | str h => rw [hu] at h; cases h
  | slice h => rw [hu] at h; cases h
  | struct h => rw [hu] at h; cases h
def fieldTypes (P : Program) (t : TypeId) : List TypeId := match P.underlying t with
  | some (.struct fs) => fs.toList.map (·.type)
  | _ => []
def AllT (P : Program) : List TypeId → List (List AV) → Prop
  | [], [] => True
  | t :: ts, p :: ps => AvT P t p ∧ AllT P ts ps
  | _, _ => False
theorem allT_of : ∀ {ts : List TypeId} {ps : List (List AV)}, ps.length = ts.length → (∀ (i : Nat) (t : TypeId) (p : List AV), ts[i]? = some t → ps[i]? = some p → AvT P t p) → AllT P ts ps
  | [], [], _, _ => trivial
  | [], _ :: _, h, _ => by simp at h
  | _ :: _, [], h, _ => by simp at h
  | t :: ts, p :: ps, hl, h => ⟨h 0 t p rfl rfl, allT_of (by simpa using hl) fun i t' p' h1 h2 => h (i + 1) t' p' (by simpa using h1) (by simpa using h2)⟩
theorem AvT.fields {ts : List TypeId} (hs : (match P.underlying t with | some (.struct _) => true | _ => false) = true) (ht : fieldTypes P t = ts) (h : AvT P t l) : ∃ ps, l = ps.flatten ∧ AllT P ts ps := by
  cases hu : P.underlying t with
  | none => rw [hu] at hs; cases hs
  | some u =>
    rw [hu] at hs
    cases u with
    | struct fs =>
      obtain ⟨ps, h1, h2, h3⟩ := AvT.struct_inv hu h
      refine ⟨ps, h1, ?_⟩
      unfold fieldTypes at ht
      rw [hu] at ht
      subst ht
      refine allT_of (by simpa using h2) fun i t p hi hp => ?_
      rw [List.getElem?_map, Option.map_eq_some_iff] at hi
      obtain ⟨f, hf, rfl⟩ := hi
      exact h3 i f p (by simpa [Array.getElem?_toList] using hf) hp
    | _ => cases hs
theorem map_of {α : Type} {enc : α → List AV} {ok : α → Prop} {es : List (List AV)} (h : ∀ c ∈ es, ∃ x, c = enc x ∧ ok x) : ∃ xs : List α, es = xs.map enc ∧ ∀ x ∈ xs, ok x := by
  induction es with
  | nil => exact ⟨[], rfl, fun _ h => by cases h⟩
  | cons c es ih =>
    obtain ⟨x, rfl, hx⟩ := h c (List.mem_cons_self ..)
    obtain ⟨xs, rfl, hxs⟩ := ih fun c hc => h c (List.mem_cons_of_mem _ hc)
    exact ⟨x :: xs, rfl, fun y hy => by
      rcases List.mem_cons.1 hy with rfl | hy
      · exact hx
      · exact hxs y hy⟩
end
section
variable {P : Program} {w : World}
def RepsW (w : World) : List AV → List Value → Prop
  | [], [] => True
  | c :: cs, x :: xs => FRep w (All w) c x ∧ RepsW w cs xs
  | _, _ => False
theorem repsW_at : ∀ {cs : List AV} {xs : List Value}, RepsW w cs xs → xs.length = cs.length ∧ ∀ (i : Nat) (c : AV) (x : Value), cs[i]? = some c → xs[i]? = some x → FRep w (All w) c x
  | [], [], _ => ⟨rfl, fun i c x h => by simp at h⟩
  | c :: cs, x :: xs, h => by
    obtain ⟨h1, h2⟩ := h
    obtain ⟨h3, h4⟩ := repsW_at h2
    refine ⟨by simp [h3], fun i c' x' hc hx => ?_⟩
    cases i with
    | zero =>
      simp only [List.getElem?_cons_zero, Option.some.injEq] at hc hx
      subst hc hx
      exact h1
    | succ i => exact h4 i c' x' (by simpa using hc) (by simpa using hx)
  | [], _ :: _, h => h.elim
  | _ :: _, [], h => h.elim
theorem law_calls' {defs : FuncId → Option CF} {prims : Call} {G : Nat → AV} (hm : P.follows .mixedOrders = true) (hd : DefsOk P defs) (hp : CallOk2 P G prims) (hG : GlobOk G w (All w)) {f : FuncId} {args : List AV} {vargs : Array Value}
    (h : D defs prims G f args = some (.v (.bool true))) (ha : RepsW w args vargs.toList) :
    Calls P f vargs w fun e w' => e = .returned (.bool true) ∧ Below w.heap.size w w' := by
  obtain ⟨h1, h2⟩ := repsW_at ha
  exact law_calls hm hd hp hG h (by simpa using h1) fun i c x hc hx => h2 i c x hc (by simpa [Array.getElem?_toList] using hx)
end
end Go.Proofs.YtmhdapjmndfkgaaGreatDoor.Eng
namespace Go.Proofs.YtmhdapjmndfkgaaGreatDoor.Eng
open Go
abbrev Objs := List (Key × Ob)
abbrev Out := Option AV
abbrev Tag {α : Type} (_ : α) : Type := Unit
section
variable (f : CX → AV)
def CX.sub (x : CX) : CX := .c (f x)
def COp.sub : COp → COp
  | .mv x => .mv (x.sub f)
  | .nil sz => .nil sz
  | .pick c a b => .pick (c.sub f) (a.sub f) (b.sub f)
  | .box n sz x => .box n sz (x.sub f)
  | .alloc z sz => .alloc z sz
  | .build z ps => .build z (ps.map fun p => (p.1, p.2.1, p.2.2.sub f))
  | .bsl n sz z ps => .bsl n sz z (ps.map fun p => (p.1, p.2.sub f))
  | .mks sz b z n c => .mks sz b z (n.sub f) (c.sub f)
  | .ld g n a => .ld g n (a.sub f)
  | .st n a x => .st n (a.sub f) (x.sub f)
  | .nck x => .nck (x.sub f)
  | .bin op x y => .bin op (x.sub f) (y.sub f)
  | .eqb n x y => .eqb n (x.sub f) (y.sub f)
  | .eqs n k x y => .eqs n k (x.sub f) (y.sub f)
  | .eqn k n x => .eqn k n (x.sub f)
  | .not x => .not (x.sub f)
  | .neg x => .neg (x.sub f)
  | .cvi k x => .cvi k (x.sub f)
  | .b2s x => .b2s (x.sub f)
  | .mki ty x => .mki ty (x.sub f)
  | .tas x ty ok z => .tas (x.sub f) ty ok z
  | .mkf g l => .mkf g (l.map (CX.sub f))
  | .fad x o => .fad (x.sub f) o
  | .fld x o n g => .fld (x.sub f) o n g
  | .ias s x i => .ias s (x.sub f) (i.sub f)
  | .iaa l s x i => .iaa l s (x.sub f) (i.sub f)
  | .ixs x i => .ixs (x.sub f) (i.sub f)
  | .ixa l n g x i => .ixa l n g (x.sub f) (i.sub f)
  | .sls x a b => .sls (x.sub f) (a.map (CX.sub f)) (b.map (CX.sub f))
  | .slc s x a b => .slc s (x.sub f) (a.map (CX.sub f)) (b.map (CX.sub f))
  | .slv s x a b => .slv s (x.sub f) (a.map (CX.sub f)) (b.map (CX.sub f))
  | .cut r b s x y => .cut r b (s.sub f) (x.sub f) (y.sub f)
  | .cvu ts x => .cvu ts (x.sub f)
  | .eqp n x y => .eqp n (x.sub f) (y.sub f)
  | .ext x i => .ext (x.sub f) i
  | .len s x => .len s (x.sub f)
  | .app r s b x y => .app r s b (x.sub f) (y.sub f)
  | .call o g l => .call o g (l.map (CX.sub f))
  | .lend g b l => .lend g b (l.map (CX.sub f))
  | .cal o g l => .cal o (g.sub f) (l.map (CX.sub f))
  | .apd h r s b x y => .apd h r s b (x.sub f) (y.sub f)
  | .mm m x y => .mm m (x.sub f) (y.sub f)
  | .bad => .bad
end
abbrev noG : Nat → AV := fun _ => .undef
theorem ev_sub {t : List AV} {G : Nat → AV} {x : CX} : ev [] noG (x.sub (ev t G)) = ev t G x := rfl
theorem argsOf_sub {t : List AV} {G : Nat → AV} : ∀ l : List CX, argsOf [] noG (l.map (CX.sub (ev t G))) = argsOf t G l
  | [] => rfl
  | x :: l => by simp only [List.map_cons, argsOf, ev_sub, argsOf_sub l]
theorem fzParts_sub {t : List AV} {G : Nat → AV} : ∀ l : List (Nat × CX), fzParts [] noG (l.map fun p => (p.1, p.2.sub (ev t G))) = fzParts t G l
  | [] => rfl
  | x :: l => by simp only [List.map_cons, fzParts, ev_sub, fzParts_sub l]
theorem capOf_sub {t : List AV} {G : Nat → AV} {g : Key → Option Ob} {c : CX} : capOf noG [] g (c.sub (ev t G)) = capOf G t g c := by simp only [capOf, ev_sub]
theorem capsOf_sub {t : List AV} {G : Nat → AV} {g : Key → Option Ob} : ∀ l : List CX, capsOf noG [] g (l.map (CX.sub (ev t G))) = capsOf G t g l
  | [] => rfl
  | x :: l => by simp only [List.map_cons, capsOf, capOf_sub, capsOf_sub l]
theorem denX_sub {call : Call} {G : Nat → AV} {t : List AV} {g : Key → Option Ob} {d j : Nat} (op : COp) : denX call noG [] g d j (op.sub (ev t G)) = denX call G t g d j op := by
  cases op
  case build z ps => simp only [COp.sub, denX, List.map_map]; rfl
  case bsl n sz z ps => simp only [COp.sub, denX, fzParts_sub]
  case mkf f l => simp only [COp.sub, denX, capsOf_sub]
  case call o f l => simp only [COp.sub, denX, argsOf_sub]
  case cal o f l => simp only [COp.sub, denX, argsOf_sub, ev_sub]
  case sls x a b => cases a <;> cases b <;> simp only [COp.sub, denX, ev_sub, Option.map]
  case slc s x a b => cases a <;> cases b <;> simp only [COp.sub, denX, ev_sub, Option.map]
  case slv s x a b => cases a <;> cases b <;> simp only [COp.sub, denX, ev_sub, Option.map]
  case len s x => cases s <;> simp only [COp.sub, denX, ev_sub]
  all_goals first | rfl | simp only [COp.sub, denX, ev_sub]
def isQ : COp → Bool
  | .mv _ | .pick _ _ _ | .build _ _ | .nck _ | .bin _ _ _ | .eqb _ _ _ | .eqs _ _ _ _ | .eqn _ _ _ | .mm _ _ _ | .not _ | .neg _ | .cvi _ _ | .b2s _ | .tas _ _ _ _ | .fad _ _ | .fld _ _ _ _ | .ias _ _ _ | .iaa _ _ _ _ | .ixs _ _ | .ixa _ _ _ _ _ | .sls _ _ _ | .ext _ _ | .len _ _ | .eqp _ _ _ => true
  | _ => false
def noC : Call := fun _ _ => none
def qv (op : COp) : Option AV := (denX noC noG [] (fun _ => none) 0 0 op).map (·.x)
theorem qv_any {call : Call} {g : Key → Option Ob} {d j : Nat} {op : COp} (h : isQ op = true) : denX call noG [] g d j op = denX noC noG [] (fun _ => none) 0 0 op := by
  cases op
  case len s x => cases s <;> rfl
  all_goals first | rfl | (cases h; done)
theorem q_plain {op : COp} {r : R} (h : isQ op = true) (hr : denX noC noG [] (fun _ => none) 0 0 op = some r) : r = { x := r.x } := by
  cases op
  case len s x =>
    cases s
    · simp only [denX] at hr
      obtain ⟨_, _, rfl⟩ := Option.map_eq_some_iff.1 hr
      rfl
    · simp only [denX] at hr
      split at hr <;> cases hr
      rfl
  all_goals first | (cases h; done) | simp only [denX] at hr
  all_goals repeat' split at hr
  all_goals first
    | (cases hr; done)
    | (cases hr; rfl)
    | (obtain ⟨_, _, rfl⟩ := Option.map_eq_some_iff.1 hr; rfl)
    | (obtain ⟨_, _, hr⟩ := Option.bind_eq_some_iff.1 hr; obtain ⟨_, _, rfl⟩ := Option.map_eq_some_iff.1 hr; rfl)
    | (obtain ⟨_, _, hr⟩ := Option.bind_eq_some_iff.1 hr; cases hr; rfl)
theorem qv_eq {call : Call} {g : Key → Option Ob} {d j : Nat} {op : COp} (h : isQ op = true) : denX call noG [] g d j op = (qv op).map fun x => { x } := by
  rw [qv_any h]
  unfold qv
  cases hr : denX noC noG [] (fun _ => none) 0 0 op with
  | none => rfl
  | some r => simp only [Option.map_some]; rw [← q_plain h hr]
def addO (o new : Objs) : Objs := match new with
  | [] => o
  | x :: l => o ++ x :: l
theorem addO_eq {o new : Objs} : addO o new = o ++ new := by cases new <;> simp [addO]
def finO (o new : Objs) (seals : List Key) : Objs := sealO (addO o new) seals
def Xq (op : COp) (k : AV → Out) (_ : Tag k := ()) : Out := match qv op with
  | some x => k x
  | none => none
def wantsV (b : Bool) : AV → Option Bool
  | .v (.bool c) => some (c == b)
  | .tup [] => some false
  | _ => none
def Xg (x : AV) (b : Bool) (A : (AV → Objs → Out) → Out) (o : Objs) (k : AV → Objs → Out) (_ : Tag k := ()) : Out := match wantsV b x with
  | some true => A k
  | some false => k (.tup []) o
  | none => none
def Xgq (x : AV) (b : Bool) (op : COp) (k : AV → Out) (_ : Tag k := ()) : Out := match wantsV b x with
  | some true => Xq op k ()
  | some false => k (.tup [])
  | none => none
section
variable (call : Call)
def Xx (o : Objs) (d : Nat) (op : COp) (k : AV → Objs → Out) (_ : Tag k := ()) : Out := match denX call noG [] (getO o) d (countO d o) op with
  | some r => bif freshO o r.new then k r.x (finO o r.new r.seals) else none
  | none => none
def Xxg (x : AV) (b : Bool) (o : Objs) (d : Nat) (op : COp) (k : AV → Objs → Out) (_ : Tag k := ()) : Out := match wantsV b x with
  | some true => Xx call o d op k ()
  | some false => k (.tup []) o
  | none => none
def Xp (o : Objs) (d : Nat) (op : COp) (k : AV → Objs → List Key → Out) (_ : Tag k := ()) : Out := match denX call noG [] (getO o) d (countO d o) op with
  | some r => bif freshO o r.new && r.new.all (fun p => p.1.1 == d) then k r.x r.new r.seals else none
  | none => none
def Xpg (x : AV) (b : Bool) (o : Objs) (d : Nat) (op : COp) (k : AV → Objs → List Key → Out) (_ : Tag k := ()) : Out := match wantsV b x with
  | some true => Xp call o d op k ()
  | some false => k (.tup []) [] []
  | none => none
end
def Xs (o : Objs) (n : Nat) (a x : AV) (k : (AV → AV) → Objs → Out) (_ : Tag k := ()) : Out := match a with
  | .ptr q off => match getO o q with
    | some (.var cs false) => bif decide ((cellsOf x).length = n) && decide (off + n ≤ cs.length) && solid x then k (fun y => y) (setO o q (.var (splice cs off (cellsOf x)) false)) else none
    | _ => none
  | .eptr q i off cs => match getO o q with
    | some (.tail _ _ true _) => match frz x with
      | some y => bif decide ((cellsOf y).length = n) && decide (n ≤ cs.length) && !(keys x).contains q then k (putT q i off (cellsOf y)) (sealO (o.map fun p => (p.1, putO q i off (cellsOf y) p.2)) (keys x)) else none
      | none => none
    | _ => none
  | _ => none
def Xsg (g : AV) (b : Bool) (o : Objs) (n : Nat) (a x : AV) (k : (AV → AV) → Objs → Out) (_ : Tag k := ()) : Out := match wantsV b g with
  | some true => Xs o n a x k ()
  | some false => k (fun y => y) o
  | none => none
def Xv (o : Objs) (n : Nat) (a x : AV) (k : Objs → Out) (_ : Tag k := ()) : Out := match a with
  | .ptr q off => match getO o q with
    | some (.var cs false) => bif decide ((cellsOf x).length = n) && decide (off + n ≤ cs.length) && solid x then k (setO o q (.var (splice cs off (cellsOf x)) false)) else none
    | _ => none
  | _ => none
def Xvg (g : AV) (b : Bool) (o : Objs) (n : Nat) (a x : AV) (k : Objs → Out) (_ : Tag k := ()) : Out := match wantsV b g with
  | some true => Xv o n a x k ()
  | some false => k o
  | none => none
def appV (o : Objs) (d : Nat) (str : Bool) (sz : Sz) (bytes : Nat) (x y : AV) : Option (AV × Objs) := match srcOf str sz y with
  | some ys => match x with
    | .asl q es => match getO o q with
      | some (.tail n s _ shr) => bif decide (n = es.length) && decide (s = sz) && decide ((es.length + ys.length) * bytes ≤ 70368744177664) && lenOk sz ys then some (.asl q (es ++ ys), setO o q (.tail (n + ys.length) s false shr)) else none
      | _ => none
    | .nilsl => bif decide (ys.length * bytes ≤ 70368744177664) && lenOk sz ys && (getO o (d, countO d o)).isNone then some (.asl (d, countO d o) ys, o ++ [((d, countO d o), Ob.tail ys.length sz false false)]) else none
    | _ => none
  | none => none
def Xa (o : Objs) (d : Nat) (str : Bool) (sz : Sz) (bytes : Nat) (x y : AV) (k : AV → Objs → Out) (_ : Tag k := ()) : Out := match appV o d str sz bytes x y with
  | some p => k p.1 p.2
  | none => none
def Xag (g : AV) (b : Bool) (o : Objs) (d : Nat) (str : Bool) (sz : Sz) (bytes : Nat) (x y : AV) (k : AV → Objs → Out) (_ : Tag k := ()) : Out := match wantsV b g with
  | some true => Xa o d str sz bytes x y k ()
  | some false => k (.tup []) o
  | none => none
def apdV (acc : Objs) (lens : List (Key × Nat)) (h : Nat) (str : Bool) (sz : Sz) (bytes : Nat) (x y : AV) : Option (AV × Key × Nat) := match srcOf str sz y with
  | some ys => match x with
    | .asl k es => match getO acc k with
      | some (.tail n s _ _) => if k.1 = h ∧ (lenOf lens k).getD n = es.length ∧ s = sz ∧ (es.length + ys.length) * bytes ≤ 70368744177664 ∧ lenOk sz ys = true then some (.asl k (es ++ ys), k, es.length + ys.length) else none
      | _ => none
    | _ => none
  | none => none
def Xd (acc : Objs) (lens : List (Key × Nat)) (h : Nat) (str : Bool) (sz : Sz) (bytes : Nat) (x y : AV) (k : AV → List (Key × Nat) → Out) (_ : Tag k := ()) : Out := match apdV acc lens h str sz bytes x y with
  | some p => k p.1 ((p.2.1, p.2.2) :: lens)
  | none => none
def Xdg (g : AV) (b : Bool) (acc : Objs) (lens : List (Key × Nat)) (h : Nat) (str : Bool) (sz : Sz) (bytes : Nat) (x y : AV) (k : AV → List (Key × Nat) → Out) (_ : Tag k := ()) : Out := match wantsV b g with
  | some true => Xd acc lens h str sz bytes x y k ()
  | some false => k (.tup []) lens
  | none => none
def finL (o : Objs) : List (Key × Nat) → Objs
  | [] => o
  | p :: l => setLenO (finL o l) p.1 p.2
theorem finL_eq (o : Objs) : ∀ l, finL o l = setLens o l
  | [] => rfl
  | p :: l => by simp only [finL, setLens, finL_eq o l]
def lendR (call : Call) (G : Nat → AV) (t : List AV) (o0 : Objs) (d : Nat) (f : FuncId) (fs : List Bool) (args : List CX) : Option ((AV → AV) × AV × Objs) :=
    let o := sealO o0 (lendKs t G fs args)
    (reach (getO o) 64 (lendPs t G fs args) []).bind fun who => (lendCs o who).bind fun cs =>
    let ss := lendSs t G fs args
    let rs := cs ++ ss
    let K := allKeys rs
    (expTR (inR who 0) o K rs).bind fun ls => (lendMk t G who ls who.length fs args).bind fun as => (call f (.tup ls :: as)).bind fun r => match r with
    | .tup l =>
      let m := l.length - rs.length
      let p := impT d (countO d o) l
      let bk := p.1.map (mapA (ren1 (outR who)))
      let φ := lendF K (lendSl ss (bk.drop (m + who.length)))
      let o' := lendSet ((o.filter fun x => !K.contains x.1).map fun x => (x.1, mapO φ x.2)) who (bk.drop m)
      if rs.length ≤ l.length ∧ lendOk o ss = true ∧ who.Nodup ∧ d < 1000000 ∧ (rs.all fun r => decide ((cellsOf r).length ≤ 100)) = true ∧ (bk.drop m).length = rs.length ∧ ((bk.drop m).take who.length).all isAgg1 = true ∧ freshO o' p.2 = true then
        some (mapT φ, (match bk.take m with | [x] => x | xs => .tup xs), o' ++ p.2)
      else none
    | _ => none
theorem denL_eq {call : Call} {G : Nat → AV} {σ : St} {d : Nat} {f : FuncId} {fs : List Bool} {args : List CX} : denL call G σ (some d) (.lend f fs args) = (lendR call G σ.t σ.o d f fs args).map fun r => ⟨(σ.t.map r.1).set d r.2.1, r.2.2⟩ := by
  simp only [denL, lendR]
  cases reach (getO (sealO σ.o (lendKs σ.t G fs args))) 64 (lendPs σ.t G fs args) [] with
  | none => rfl
  | some who =>
    simp only [Option.bind_some]
    cases lendCs (sealO σ.o (lendKs σ.t G fs args)) who with
    | none => rfl
    | some cs =>
      simp only [Option.bind_some]
      cases expTR (inR who 0) (sealO σ.o (lendKs σ.t G fs args)) (allKeys (cs ++ lendSs σ.t G fs args)) (cs ++ lendSs σ.t G fs args) with
      | none => rfl
      | some ls =>
        simp only [Option.bind_some]
        cases lendMk σ.t G who ls who.length fs args with
        | none => rfl
        | some as =>
          simp only [Option.bind_some]
          cases call f (.tup ls :: as) with
          | none => rfl
          | some r =>
            simp only [Option.bind_some]
            cases r with
            | tup l =>
              simp only
              split <;> rfl
            | _ => rfl
theorem lendKs_sub {t : List AV} {G : Nat → AV} : ∀ (l : List CX) (fs : List Bool), lendKs [] noG fs (l.map (CX.sub (ev t G))) = lendKs t G fs l
  | [], _ => rfl
  | x :: l, fs => by simp only [List.map_cons, lendKs, ev_sub, lendKs_sub l]
theorem lendPs_sub {t : List AV} {G : Nat → AV} : ∀ (l : List CX) (fs : List Bool), lendPs [] noG fs (l.map (CX.sub (ev t G))) = lendPs t G fs l
  | [], _ => rfl
  | x :: l, fs => by simp only [List.map_cons, lendPs, ev_sub, lendPs_sub l]
theorem lendSs_sub {t : List AV} {G : Nat → AV} : ∀ (l : List CX) (fs : List Bool), lendSs [] noG fs (l.map (CX.sub (ev t G))) = lendSs t G fs l
  | [], _ => rfl
  | x :: l, fs => by simp only [List.map_cons, lendSs, ev_sub, lendSs_sub l]
theorem lendMk_sub {t : List AV} {G : Nat → AV} {who : List Key} {ls : List AV} : ∀ (l : List CX) (j : Nat) (fs : List Bool), lendMk [] noG who ls j fs (l.map (CX.sub (ev t G))) = lendMk t G who ls j fs l
  | [], _, _ => rfl
  | x :: l, j, fs => by simp only [List.map_cons, lendMk, ev_sub, lendMk_sub l]
theorem lendR_sub {call : Call} {t : List AV} {G : Nat → AV} {o : Objs} {d : Nat} {f : FuncId} {fs : List Bool} {l : List CX} : lendR call noG [] o d f fs (l.map (CX.sub (ev t G))) = lendR call G t o d f fs l := by
  simp only [lendR, lendKs_sub, lendPs_sub, lendSs_sub, lendMk_sub]
def Xl (call : Call) (o : Objs) (d : Nat) (op : COp) (k : (AV → AV) → AV → Objs → Out) (_ : Tag k := ()) : Out := match op with
  | .lend f fs args => match lendR call noG [] o d f fs args with
    | some r => k r.1 r.2.1 r.2.2
    | none => none
  | _ => none
def Xlg (call : Call) (g : AV) (b : Bool) (o : Objs) (d : Nat) (op : COp) (k : (AV → AV) → AV → Objs → Out) (_ : Tag k := ()) : Out := match wantsV b g with
  | some true => Xl call o d op k ()
  | some false => k (fun y => y) (.tup []) o
  | none => none
def Xt (o : Objs) (sz : Sz) (bytes : Nat) (s x y : AV) (k : (AV → AV) → AV → Objs → Out) (_ : Tag k := ()) : Out := match cutV o sz bytes s x y with
  | some r => k r.1 r.2.1 r.2.2
  | none => none
def Xc (x : AV) (a b : Unit → Out) (_ : Tag a := ()) (_ : Tag b := ()) : Out := match x with
  | .v (.bool c) => bif c then a () else b ()
  | _ => none
def putD (t : List AV) (d : Option Nat) (x : AV) : List AV := match d with
  | some d => t.set d x
  | none => t
def inV (V : List Nat) : CX → Bool
  | .t i => V.contains i
  | _ => false
section
variable (call : Call) (G : Nat → AV)
def runQ (g : Option (Nat × Bool)) (op : COp) (t : List AV) (k : AV → Out) : Out := match g with
  | none => (match op with
    | .mv x => k (ev t G x)
    | op => Xq (op.sub (ev t G)) k ())
  | some (i, b) => Xgq (t.getD i .undef) b (op.sub (ev t G)) k ()
variable (V : List Nat)
def opK (g : Option (Nat × Bool)) (op : COp) (d : Option Nat) (t : List AV) (o : Objs) (k : List AV → Objs → Out) : Out := match op with
  | .st n a x => bif inV V a then (match g with
    | none => Xv o n (ev t G a) (ev t G x) (fun o => k (putD t d (.tup [])) o) ()
    | some (i, b) => Xvg (t.getD i .undef) b o n (ev t G a) (ev t G x) (fun o => k (putD t d (.tup [])) o) ())
    else match g with
    | none => Xs o n (ev t G a) (ev t G x) (fun p o => k (putD (t.map p) d (.tup [])) o) ()
    | some (i, b) => Xsg (t.getD i .undef) b o n (ev t G a) (ev t G x) (fun p o => k (putD (t.map p) d (.tup [])) o) ()
  | .app str sz bytes x y => match d with
    | none => match g with
      | none => none
      | some (i, b) => match wantsV b (t.getD i .undef) with
        | some false => k t o
        | _ => none
    | some d => match g with
      | none => Xa o d str sz bytes (ev t G x) (ev t G y) (fun x o => k (t.set d x) o) ()
      | some (i, b) => Xag (t.getD i .undef) b o d str sz bytes (ev t G x) (ev t G y) (fun x o => k (t.set d x) o) ()
  | .cut sz b s x y => match g with
    | some _ => none
    | none => match d with
      | none => none
      | some d => Xt o sz b (ev t G s) (ev t G x) (ev t G y) (fun p x o => k ((t.map p).set d x) o) ()
  | .lend f fs l => match d with
    | none => none
    | some d => match g with
      | none => Xl call o d (.lend f fs (l.map (CX.sub (ev t G)))) (fun p x o => k ((t.map p).set d x) o) ()
      | some (i, b) => Xlg call (t.getD i .undef) b o d (.lend f fs (l.map (CX.sub (ev t G)))) (fun p x o => k ((t.map p).set d x) o) ()
  | op => bif isQ op then runQ G g op t (fun x => k (putD t d x) o)
    else match d with
    | none => none
    | some d => match g with
      | none => Xx call o d (op.sub (ev t G)) (fun x o => k (t.set d x) o) ()
      | some (i, b) => Xxg call (t.getD i .undef) b o d (op.sub (ev t G)) (fun x o => k (t.set d x) o) ()
def opsK : List CO → List AV → Objs → (List AV → Objs → Out) → Out
  | [], t, o, k => k t o
  | c :: l, t, o, k => opK call G V c.guard c.op c.dst t o fun t o => opsK l t o k
def preK (o : Objs) : List CO → List AV → Objs → List Key → List (Key × Nat) → (List AV → Objs → Out) → Out
  | [], t, new, seals, lens, k => k t (finL (finO o new seals) lens)
  | c :: l, t, new, seals, lens, k => match c.dst with
    | none => none
    | some d => match c.op with
      | .apd h str sz bytes x y => (match c.guard with
        | none => Xd new lens h str sz bytes (ev t G x) (ev t G y) (fun x ls => preK o l (t.set d x) new seals ls k) ()
        | some (i, b) => Xdg (t.getD i .undef) b new lens h str sz bytes (ev t G x) (ev t G y) (fun x ls => preK o l (t.set d x) new seals ls k) ())
      | op => bif isQ op then runQ G c.guard op t (fun x => preK o l (t.set d x) new seals lens k)
      else bif isX op then (match c.guard with
        | none => Xp call o d (op.sub (ev t G)) (fun x n s => preK o l (t.set d x) (new ++ n) (seals ++ s) lens k) ()
        | some (i, b) => Xpg call (t.getD i .undef) b o d (op.sub (ev t G)) (fun x n s => preK o l (t.set d x) (new ++ n) (seals ++ s) lens k) ())
      else none
abbrev Kont := XE → List AV → Objs → Out
def kSeq (f : List AV → Objs → Kont → Out) (k : Kont) : Kont := fun e t o => match e with
  | .normal => f t o k
  | e => k e t o
def kBlock (id : Nat) (k : Kont) : Kont := fun e t o => match e with
  | .exit i => bif i == id then k .normal t o else k (.exit i) t o
  | e => k e t o
def roundsK (keep : List Nat) (body : List AV → Objs → Kont → Out) : Nat → List AV → Objs → Kont → Out
  | 0, _, _, _ => none
  | m + 1, t, o, k => body t o fun e t o => match e with
    | .normal => roundsK keep body m (maskT keep 0 t) (maskO keep o) k
    | e => k e t o
def kLoop (keep : List Nat) (body : List AV → Objs → Kont → Out) (m : Nat) (k : Kont) : Kont := fun e t o => match e with
  | .normal => roundsK keep body m (maskT keep 0 t) (maskO keep o) k
  | e => k e t o
def msk (keep : List Nat) (x : AV) : AV := if okT keep x = true then x else .undef
def denK (n : Nat) : CC → List AV → Objs → Kont → Out
  | .skip, t, o, k => k .normal t o
  | .reg pre suf, t, o, k => match pre with
    | [] => opsK call G V suf t o fun t o => k .normal t o
    | c :: l => preK call G o (c :: l) t [] [] [] fun t o => opsK call G V suf t o fun t o => k .normal t o
  | .seq a b, t, o, k => denK n a t o (kSeq (denK n b) k)
  | .cond c a b, t, o, k => Xc (ev t G c) (fun _ => denK n a t o k) (fun _ => denK n b t o k) () ()
  | .block id a, t, o, k => denK n a t o (kBlock id k)
  | .loop keep a, t, o, k => roundsK keep (denK n a) n (maskT keep 0 t) (maskO keep o) k
  | .exit i, t, o, k => k (.exit i) t o
  | .ret, t, o, k => k .ret t o
  | .bad, _, _, _ => none
end
def cellR (o : Objs) (a : AV) (ag : Bool) (n : Nat) : Option AV := match a with
  | .ptr q off => match getO o q with
    | some (.var cs _) => pack ag n (cs.drop off)
    | _ => none
  | _ => none
def seqR : List (Option AV) → Option (List AV)
  | [] => some []
  | some x :: l => (seqR l).map fun m => x :: m
  | none :: _ => none
def Xr (o : Objs) (l : List (Option AV)) : Out := match seqR l with
  | some rs => outF ⟨[], o⟩ rs
  | none => none
def XrB (o : Objs) (ls : List AV) (l : List (Option AV)) : Out := match seqR l with
  | some rs => (lendOut o 0 ls).bind fun bs => outB ⟨[], o⟩ ls (rs ++ bs)
  | none => none
def resK (t : List AV) (o : Objs) : CR → Option AV
  | .t i => some (t.getD i .undef)
  | .cell a ag n => cellR o (t.getD a .undef) ag n
def kEndB (ls : List AV) (res : List CR) : Kont := fun e t o => match e with
  | .exit _ => none
  | _ => XrB o ls (res.map (resK t o))
def kEnd (res : List CR) : Kont := fun e t o => match e with
  | .exit _ => none
  | _ => Xr o (res.map (resK t o))
def denFK (call : Call) (G : Nat → AV) (V : List Nat) (n : Nat) (f : CF) (args : List AV) : Out := denK call G V n f.code (args ++ List.replicate (f.ntmps - args.length) .undef) [] (kEnd f.res)
end Go.Proofs.YtmhdapjmndfkgaaGreatDoor.Eng
namespace Go.Proofs.YtmhdapjmndfkgaaGreatDoor.Eng
open Go
section
variable {call : Call} {G : Nat → AV} {V : List Nat}
def thenO (k : List AV → Objs → Out) : Option St → Out
  | some σ => k σ.t σ.o
  | none => none
def thenK (k : Kont) : Option (XE × St) → Out
  | some (e, σ) => k e σ.t σ.o
  | none => none
theorem wants_V {t : List AV} {i : Nat} {b : Bool} : wants t (some (i, b)) = wantsV b (t.getD i .undef) := by
  simp only [wants, wantsV]
  generalize t.getD i .undef = x
  cases x with
  | v y => cases y <;> rfl
  | tup l => cases l <;> rfl
  | _ => rfl
theorem freshO_nil {o : Objs} : freshO o [] = true := rfl
theorem denO_q {σ : St} {op : COp} {d : Option Nat} (h : isQ op = true) : denO call G σ op d = (qv (op.sub (ev σ.t G))).map fun x => ⟨putD σ.t d x, σ.o⟩ := by
  have hx : isX op = true := by cases op <;> first | rfl | (cases h; done)
  have hs : isQ (op.sub (ev σ.t G)) = true := by cases op <;> first | rfl | (cases h; done)
  unfold denO
  rw [if_pos hx, ← denX_sub op, qv_eq hs]
  cases qv (op.sub (ev σ.t G)) with
  | none => rfl
  | some x =>
    simp only [Option.map_some, Option.bind_some, List.isEmpty_nil, Bool.or_true, freshO_nil, Bool.and_self, if_true, St.app, List.append_nil, sealO, putD]
    cases d <;> rfl
theorem runQ_eq {g : Option (Nat × Bool)} {op : COp} {t : List AV} {k : AV → Out} : runQ G g op t k = match g with
    | none => Xq (op.sub (ev t G)) k ()
    | some (i, b) => Xgq (t.getD i .undef) b (op.sub (ev t G)) k () := by
  unfold runQ
  cases g with
  | none => cases op <;> rfl
  | some ib => rfl
theorem St.eta (σ : St) : (⟨σ.t, σ.o⟩ : St) = σ := rfl
theorem opK_eq (g : Option (Nat × Bool)) (op : COp) (d : Option Nat) (t : List AV) (o : Objs) (k : List AV → Objs → Out) (r : AV) (h : opK call G V g op d t o k = some r) : thenO k (den1 call G ⟨t, o⟩ ⟨d, g, op⟩) = some r := by
  have run : ∀ (op : COp), isQ op = true → Xq (op.sub (ev t G)) (fun x => k (putD t d x) o) () = some r → thenO k (denO call G ⟨t, o⟩ op d) = some r := by
    intro op hq h
    unfold Xq at h
    rw [denO_q hq]
    cases hv : qv (op.sub (ev t G)) with
    | none => rw [hv] at h; cases h
    | some x => rw [hv] at h; exact h
  have wn : ∀ (i : Nat) (b : Bool) (w : Bool), wantsV b (t.getD i .undef) = some w → den1 call G ⟨t, o⟩ ⟨d, some (i, b), op⟩ = bif w then denO call G ⟨t, o⟩ op d else some (St.put ⟨t, o⟩ d (.tup [])) := by
    intro i b w hw
    simp only [den1, wants_V, hw, Option.bind_some]
  have n0 : den1 call G ⟨t, o⟩ ⟨d, none, op⟩ = denO call G ⟨t, o⟩ op d := rfl
  have x0 : ∀ (d' : Nat) (k' : AV → Objs → Out), d = some d' → isX op = true → (k' = fun x o => k (t.set d' x) o) → Xx call o d' (op.sub (ev t G)) k' () = some r → thenO k (denO call G ⟨t, o⟩ op d) = some r := by
    intro d' k' hd hx hk h
    subst hd hk
    unfold Xx at h
    unfold denO
    rw [if_pos hx]
    rw [denX_sub op] at h
    simp only [Option.getD_some, Option.isSome_some, Bool.true_or, Bool.true_and]
    cases hr : denX call G t (getO o) d' (countO d' o) op with
    | none => rw [hr] at h; cases h
    | some q =>
      rw [hr] at h
      simp only at h
      cases hf : freshO o q.new with
      | false => rw [hf] at h; cases h
      | true =>
        rw [hf] at h
        simp only [Option.bind_some, hf, if_true, thenO, St.app]
        simpa [finO, addO_eq] using h
  cases op
  case st n a x =>
    have s0 : ∀ (k' : (AV → AV) → Objs → Out), (k' = fun p o => k (putD (t.map p) d (.tup [])) o) → Xs o n (ev t G a) (ev t G x) k' () = some r → thenO k (denO call G ⟨t, o⟩ (.st n a x) d) = some r := by
      intro k' hk h
      subst hk
      unfold Xs at h
      simp only [denO, isX, denM, Bool.false_eq_true, if_false]
      cases ha : ev t G a with
      | ptr q off =>
        rw [ha] at h
        simp only at h ⊢
        cases hg : getO o q with
        | none => rw [hg] at h; cases h
        | some ob =>
          rw [hg] at h
          cases ob with
          | var cs s =>
            cases s with
            | true => cases h
            | false =>
              simp only at h ⊢
              cases hc : (decide ((cellsOf (ev t G x)).length = n) && decide (off + n ≤ cs.length) && solid (ev t G x)) with
              | false => rw [hc] at h; cases h
              | true =>
                rw [hc] at h
                have hc' : (cellsOf (ev t G x)).length = n ∧ off + n ≤ cs.length ∧ solid (ev t G x) = true := by simpa [and_assoc] using hc
                rw [if_pos hc']
                simp only [cond_true, List.map_id'] at h
                simp only [thenO, St.put]
                cases d <;> exact h
          | _ => cases h
      | eptr q i off cs =>
        rw [ha] at h
        simp only at h ⊢
        cases hg : getO o q with
        | none => rw [hg] at h; cases h
        | some ob =>
          rw [hg] at h
          cases ob with
          | tail l sz mu shr =>
            cases mu with
            | false => cases h
            | true =>
              simp only at h ⊢
              cases hz : frz (ev t G x) with
              | none => rw [hz] at h; cases h
              | some y =>
                rw [hz] at h
                simp only [Option.bind_some] at h ⊢
                cases hc : (decide ((cellsOf y).length = n) && decide (n ≤ cs.length) && !(keys (ev t G x)).contains q) with
                | false => rw [hc] at h; cases h
                | true =>
                  rw [hc] at h
                  have hc' : (cellsOf y).length = n ∧ n ≤ cs.length ∧ (keys (ev t G x)).contains q = false := by
                    simp only [Bool.and_eq_true, decide_eq_true_eq, Bool.not_eq_true'] at hc
                    exact ⟨hc.1.1, hc.1.2, hc.2⟩
                  rw [if_pos hc']
                  simp only [cond_true] at h
                  simp only [thenO, St.put]
                  cases d <;> exact h
          | _ => cases h
      | _ => rw [ha] at h; cases h
    have v0 : ∀ (k' : Objs → Out), (k' = fun o => k (putD t d (.tup [])) o) → Xv o n (ev t G a) (ev t G x) k' () = some r → thenO k (denO call G ⟨t, o⟩ (.st n a x) d) = some r := by
      intro k' hk h
      refine s0 _ rfl ?_
      subst hk
      unfold Xv at h
      unfold Xs
      cases ha : ev t G a with
      | ptr q off =>
        rw [ha] at h
        simp only [List.map_id'] at h ⊢
        cases hg : getO o q with
        | none => rw [hg] at h; cases h
        | some ob =>
          rw [hg] at h
          cases ob with
          | var cs s => cases s <;> exact h
          | _ => cases h
      | _ => rw [ha] at h; cases h
    simp only [opK] at h
    cases hv : inV V a with
    | true =>
      rw [hv] at h
      simp only [cond_true] at h
      cases g with
      | none => exact v0 _ rfl h
      | some ib =>
        obtain ⟨i, b⟩ := ib
        simp only [Xvg] at h
        cases hw : wantsV b (t.getD i .undef) with
        | none => rw [hw] at h; cases h
        | some w =>
          rw [hw] at h
          rw [wn i b w hw]
          cases w with
          | true => exact v0 _ rfl h
          | false =>
            simp only [cond_false, thenO, St.put]
            cases d <;> exact h
    | false =>
    rw [hv] at h
    simp only [cond_false] at h
    cases g with
    | none => exact s0 _ rfl h
    | some ib =>
      obtain ⟨i, b⟩ := ib
      simp only [Xsg] at h
      cases hw : wantsV b (t.getD i .undef) with
      | none => rw [hw] at h; cases h
      | some w =>
        rw [hw] at h
        rw [wn i b w hw]
        cases w with
        | true => exact s0 _ rfl h
        | false =>
          simp only [List.map_id'] at h
          simp only [cond_false, thenO, St.put]
          cases d <;> exact h
  case app str sz bytes x y =>
    have a0 : ∀ (d' : Nat) (k' : AV → Objs → Out), d = some d' → (k' = fun x o => k (t.set d' x) o) → Xa o d' str sz bytes (ev t G x) (ev t G y) k' () = some r → thenO k (denO call G ⟨t, o⟩ (.app str sz bytes x y) d) = some r := by
      intro d' k' hd hk h
      subst hd hk
      unfold Xa appV at h
      simp only [denO, isX, denM, Bool.false_eq_true, if_false]
      cases hs : srcOf str sz (ev t G y) with
      | none => rw [hs] at h; cases h
      | some ys =>
        rw [hs] at h
        simp only [Option.bind_some] at h ⊢
        cases hx : ev t G x with
        | asl q es =>
          rw [hx] at h
          simp only at h ⊢
          cases hg : getO o q with
          | none => rw [hg] at h; cases h
          | some ob =>
            rw [hg] at h
            cases ob with
            | tail n s mu shr =>
              simp only at h ⊢
              cases hc : (decide (n = es.length) && decide (s = sz) && decide ((es.length + ys.length) * bytes ≤ 70368744177664) && lenOk sz ys) with
              | false => rw [hc] at h; cases h
              | true =>
                rw [hc] at h
                have hc' : n = es.length ∧ s = sz ∧ (es.length + ys.length) * bytes ≤ 70368744177664 ∧ lenOk sz ys = true := by simpa [and_assoc] using hc
                rw [if_pos hc']
                exact h
            | _ => cases h
        | nilsl =>
          rw [hx] at h
          simp only at h ⊢
          cases hc : (decide (ys.length * bytes ≤ 70368744177664) && lenOk sz ys && (getO o (d', countO d' o)).isNone) with
          | false => rw [hc] at h; cases h
          | true =>
            rw [hc] at h
            have hc' : ys.length * bytes ≤ 70368744177664 ∧ lenOk sz ys = true ∧ getO o (d', countO d' o) = none := by simpa [and_assoc] using hc
            rw [if_pos hc']
            exact h
        | _ => rw [hx] at h; cases h
    cases d with
    | none =>
      cases g with
      | none => cases h
      | some ib =>
        obtain ⟨i, b⟩ := ib
        simp only [opK] at h
        cases hw : wantsV b (t.getD i .undef) with
        | none => rw [hw] at h; cases h
        | some w =>
          rw [hw] at h
          cases w with
          | true => cases h
          | false =>
            rw [wn i b false hw]
            exact h
    | some d' =>
      cases g with
      | none => exact a0 d' _ rfl rfl h
      | some ib =>
        obtain ⟨i, b⟩ := ib
        simp only [opK, Xag] at h
        cases hw : wantsV b (t.getD i .undef) with
        | none => rw [hw] at h; cases h
        | some w =>
          rw [hw] at h
          rw [wn i b w hw]
          cases w with
          | true => exact a0 d' _ rfl rfl h
          | false => exact h
  case lend f fs l =>
    have l0 : ∀ (d' : Nat) (k' : (AV → AV) → AV → Objs → Out), d = some d' → (k' = fun p x o => k ((t.map p).set d' x) o) → Xl call o d' (.lend f fs (l.map (CX.sub (ev t G)))) k' () = some r → thenO k (denO call G ⟨t, o⟩ (.lend f fs l) d) = some r := by
      intro d' k' hd hk h
      subst hd hk
      unfold Xl at h
      simp only [lendR_sub] at h
      unfold denO
      rw [if_neg (by simp [isX])]
      simp only [isL, if_true, denL_eq]
      cases hr : lendR call G t o d' f fs l with
      | none => rw [hr] at h; cases h
      | some q => rw [hr] at h; exact h
    simp only [opK] at h
    cases d with
    | none => cases h
    | some d' =>
      cases g with
      | none => exact l0 d' _ rfl rfl h
      | some ib =>
        obtain ⟨i, b⟩ := ib
        simp only [Xlg] at h
        cases hw : wantsV b (t.getD i .undef) with
        | none => rw [hw] at h; cases h
        | some w =>
          rw [hw] at h
          rw [wn i b w hw]
          cases w with
          | true => exact l0 d' _ rfl rfl h
          | false =>
            simp only [List.map_id'] at h
            exact h
  case cut sz b s x y =>
    have t0 : ∀ (d' : Nat) (k' : (AV → AV) → AV → Objs → Out), d = some d' → (k' = fun p x o => k ((t.map p).set d' x) o) → Xt o sz b (ev t G s) (ev t G x) (ev t G y) k' () = some r → thenO k (denO call G ⟨t, o⟩ (.cut sz b s x y) d) = some r := by
      intro d' k' hd hk h
      subst hd hk
      unfold Xt at h
      unfold denO
      rw [if_neg (by simp [isX]), if_neg (by simp [isL])]
      simp only [denM]
      cases hr : cutV o sz b (ev t G s) (ev t G x) (ev t G y) with
      | none => rw [hr] at h; cases h
      | some q => rw [hr] at h; exact h
    simp only [opK] at h
    cases g with
    | some ib => cases h
    | none =>
      cases d with
      | none => cases h
      | some d' => exact t0 d' _ rfl rfl h
  case apd h0 str sz bytes x y =>
    simp only [opK, isQ, cond_false] at h
    cases d with
    | none => cases h
    | some d' =>
      cases g with
      | none => simp [Xx, COp.sub, denX] at h
      | some ib =>
        obtain ⟨i, b⟩ := ib
        simp only [Xxg] at h
        cases hw : wantsV b (t.getD i .undef) with
        | none => rw [hw] at h; cases h
        | some w =>
          rw [hw] at h
          rw [wn i b w hw]
          cases w with
          | true => simp [Xx, COp.sub, denX] at h
          | false => exact h
  all_goals
    simp only [opK, isQ, cond_true, cond_false, runQ_eq] at h
    cases g with
    | none =>
      first
      | exact run _ rfl h
      | (cases d with
         | none => cases h
         | some d' => exact x0 d' _ rfl rfl rfl h)
    | some ib =>
      obtain ⟨i, b⟩ := ib
      first
      | (simp only [Xgq] at h
         cases hw : wantsV b (t.getD i .undef) with
         | none => rw [hw] at h; cases h
         | some w =>
           rw [hw] at h
           rw [wn i b w hw]
           cases w with
           | true => exact run _ rfl h
           | false =>
             cases d <;> exact h)
      | (cases d with
         | none => cases h
         | some d' =>
           simp only [Xxg] at h
           cases hw : wantsV b (t.getD i .undef) with
           | none => rw [hw] at h; cases h
           | some w =>
             rw [hw] at h
             rw [wn i b w hw]
             cases w with
             | true => exact x0 d' _ rfl rfl rfl h
             | false => exact h)
theorem opsK_eq : ∀ (l : List CO) (t : List AV) (o : Objs) (k : List AV → Objs → Out) (r : AV), opsK call G V l t o k = some r → thenO k (denOs call G l ⟨t, o⟩) = some r
  | [], t, o, k, r, h => h
  | c :: l, t, o, k, r, h => by
    simp only [opsK] at h
    have h1 := opK_eq c.guard c.op c.dst t o _ r h
    simp only [denOs]
    have hc : (⟨c.dst, c.guard, c.op⟩ : CO) = c := rfl
    rw [hc] at h1
    cases hd : den1 call G ⟨t, o⟩ c with
    | none => rw [hd] at h1; cases h1
    | some σ =>
      rw [hd] at h1
      exact opsK_eq l σ.t σ.o k r h1
theorem apdV_run {acc : Objs} {lens : List (Key × Nat)} {h : Nat} {str : Bool} {sz : Sz} {bytes : Nat} {x y : CX} {t : List AV} {d : Nat} {g : Option (Nat × Bool)} (hw : wants t g = some true) : denA G acc lens t ⟨some d, g, .apd h str sz bytes x y⟩ = (apdV acc lens h str sz bytes (ev t G x) (ev t G y)).map fun p => ⟨d, p.1, [], [], some (p.2.1, p.2.2)⟩ := by
  simp only [denA, hw, Option.bind_some, cond_true, apdV]
  cases srcOf str sz (ev t G y) with
  | none => rfl
  | some ys =>
    simp only [Option.bind_some]
    cases ev t G x with
    | asl k es =>
      simp only
      cases getO acc k with
      | none => rfl
      | some ob =>
        cases ob with
        | tail n s mu shr =>
          simp only
          split <;> rfl
        | _ => rfl
    | _ => rfl
theorem preK_eq (o : Objs) : ∀ (l : List CO) (t : List AV) (new : Objs) (seals : List Key) (lens : List (Key × Nat)) (k : List AV → Objs → Out) (r : AV), preK call G o l t new seals lens k = some r →
    ∃ D, denPs call G o l t new lens = some D ∧ k (D.foldl (fun t p => t.set p.d p.v) t) (finL (finO o (new ++ D.flatMap (·.new)) (seals ++ D.flatMap (·.seals))) (lensOf D lens)) = some r
  | [], t, new, seals, lens, k, r, h => ⟨[], rfl, by simpa [preK, lensOf] using h⟩
  | c :: l, t, new, seals, lens, k, r, h => by
    have fin : ∀ (p : PD), denPA call G o new lens t c = some p → preK call G o l (t.set p.d p.v) (new ++ p.new) (seals ++ p.seals) (p.upd.toList ++ lens) k = some r → ∃ D, denPs call G o (c :: l) t new lens = some D ∧ k (D.foldl (fun t p => t.set p.d p.v) t) (finL (finO o (new ++ D.flatMap (·.new)) (seals ++ D.flatMap (·.seals))) (lensOf D lens)) = some r := by
      intro p hp hk
      obtain ⟨D, h1, h2⟩ := preK_eq o l _ _ _ _ k r hk
      refine ⟨p :: D, by simp only [denPs, hp, Option.bind_some, h1], ?_⟩
      simpa [List.append_assoc, lensOf] using h2
    simp only [preK] at h
    cases hd : c.dst with
    | none => rw [hd] at h; cases h
    | some d =>
      rw [hd] at h
      simp only at h
      cases ha : isA c.op with
      | true =>
        obtain ⟨dst, g, op⟩ := c
        simp only at hd ha h fin
        subst hd
        cases op <;> first | (cases ha; done) | skip
        rename_i h0 str sz bytes x y
        simp only at h
        have run : wants t g = some true → ∀ (k' : AV → List (Key × Nat) → Out), k' = (fun x ls => preK call G o l (t.set d x) new seals ls k) → Xd new lens h0 str sz bytes (ev t G x) (ev t G y) k' () = some r → ∃ D, denPs call G o (⟨some d, g, .apd h0 str sz bytes x y⟩ :: l) t new lens = some D ∧ k (D.foldl (fun t p => t.set p.d p.v) t) (finL (finO o (new ++ D.flatMap (·.new)) (seals ++ D.flatMap (·.seals))) (lensOf D lens)) = some r := by
          intro hw k' hk h
          subst hk
          unfold Xd at h
          cases hv : apdV new lens h0 str sz bytes (ev t G x) (ev t G y) with
          | none => rw [hv] at h; cases h
          | some q =>
            rw [hv] at h
            refine fin ⟨d, q.1, [], [], some (q.2.1, q.2.2)⟩ ?_ (by simpa using h)
            simp only [denPA, isA, cond_true]
            rw [apdV_run hw, hv]
            rfl
        cases g with
        | none => exact run rfl _ rfl h
        | some ib =>
          obtain ⟨i, b⟩ := ib
          simp only [Xdg] at h
          cases hw : wantsV b (t.getD i .undef) with
          | none => rw [hw] at h; cases h
          | some w =>
            rw [hw] at h
            have hw' : wants t (some (i, b)) = some w := by rw [wants_V, hw]
            cases w with
            | true => exact run hw' _ rfl h
            | false =>
              refine fin ⟨d, .tup [], [], [], none⟩ ?_ (by simpa using h)
              simp only [denPA, isA, cond_true, denA, hw', Option.bind_some, cond_false]
      | false =>
      have h : (bif isQ c.op then runQ G c.guard c.op t (fun x => preK call G o l (t.set d x) new seals lens k)
      else bif isX c.op then (match c.guard with
        | none => Xp call o d (c.op.sub (ev t G)) (fun x n s => preK call G o l (t.set d x) (new ++ n) (seals ++ s) lens k) ()
        | some (i, b) => Xpg call (t.getD i .undef) b o d (c.op.sub (ev t G)) (fun x n s => preK call G o l (t.set d x) (new ++ n) (seals ++ s) lens k) ())
      else none) = some r := by
        revert h ha
        cases c.op <;> intro h ha <;> first | exact h | (cases ha; done)
      have fin : ∀ (p : PD), p.upd = none → denP1 call G o t c = some p → preK call G o l (t.set p.d p.v) (new ++ p.new) (seals ++ p.seals) lens k = some r → ∃ D, denPs call G o (c :: l) t new lens = some D ∧ k (D.foldl (fun t p => t.set p.d p.v) t) (finL (finO o (new ++ D.flatMap (·.new)) (seals ++ D.flatMap (·.seals))) (lensOf D lens)) = some r := by
        intro p hu hp hk
        refine fin p (by simp only [denPA, ha, cond_false]; exact hp) (by rw [hu]; exact hk)
      have isx : isQ c.op = true → isX c.op = true := by
        intro hq
        cases hc : c.op <;> rw [hc] at hq <;> first | rfl | (cases hq; done)
      have isq : isQ c.op = true → isQ (c.op.sub (ev t G)) = true := by
        intro hq
        cases hc : c.op <;> rw [hc] at hq <;> first | rfl | (cases hq; done)
      have runq : isQ c.op = true → wants t c.guard = some true → ∀ (k' : AV → Out), k' = (fun x => preK call G o l (t.set d x) new seals lens k) → Xq (c.op.sub (ev t G)) k' () = some r → ∃ D, denPs call G o (c :: l) t new lens = some D ∧ k (D.foldl (fun t p => t.set p.d p.v) t) (finL (finO o (new ++ D.flatMap (·.new)) (seals ++ D.flatMap (·.seals))) (lensOf D lens)) = some r := by
        intro hq hw k' hk h
        subst hk
        unfold Xq at h
        cases hv : qv (c.op.sub (ev t G)) with
        | none => rw [hv] at h; cases h
        | some x =>
          rw [hv] at h
          refine fin ⟨d, x, [], [], none⟩ rfl ?_ (by simpa using h)
          unfold denP1
          rw [hd]
          simp only [hw, Option.bind_some, cond_true, isx hq, if_true]
          rw [← denX_sub c.op, qv_eq (isq hq), hv]
          rfl
      have runx : isX c.op = true → wants t c.guard = some true → ∀ (k' : AV → Objs → List Key → Out), k' = (fun x n s => preK call G o l (t.set d x) (new ++ n) (seals ++ s) lens k) → Xp call o d (c.op.sub (ev t G)) k' () = some r → ∃ D, denPs call G o (c :: l) t new lens = some D ∧ k (D.foldl (fun t p => t.set p.d p.v) t) (finL (finO o (new ++ D.flatMap (·.new)) (seals ++ D.flatMap (·.seals))) (lensOf D lens)) = some r := by
        intro hx hw k' hk h
        subst hk
        unfold Xp at h
        rw [denX_sub c.op] at h
        cases hv : denX call G t (getO o) d (countO d o) c.op with
        | none => rw [hv] at h; cases h
        | some q =>
          rw [hv] at h
          simp only at h
          cases hf : (freshO o q.new && q.new.all fun p => p.1.1 == d) with
          | false => rw [hf] at h; cases h
          | true =>
            rw [hf] at h
            refine fin ⟨d, q.x, q.new, q.seals, none⟩ rfl ?_ h
            unfold denP1
            rw [hd]
            simp only [hw, Option.bind_some, cond_true, hx, if_true, hv, hf]
      have skip : wants t c.guard = some false → preK call G o l (t.set d (.tup [])) new seals lens k = some r → ∃ D, denPs call G o (c :: l) t new lens = some D ∧ k (D.foldl (fun t p => t.set p.d p.v) t) (finL (finO o (new ++ D.flatMap (·.new)) (seals ++ D.flatMap (·.seals))) (lensOf D lens)) = some r := by
        intro hw h
        refine fin ⟨d, .tup [], [], [], none⟩ rfl ?_ (by simpa using h)
        unfold denP1
        rw [hd]
        simp only [hw, Option.bind_some, cond_false]
      cases hq : isQ c.op with
      | true =>
        rw [hq] at h
        simp only [cond_true, runQ_eq] at h
        cases hg : c.guard with
        | none => rw [hg] at h; exact runq hq (by rw [hg]; rfl) _ rfl h
        | some ib =>
          obtain ⟨i, b⟩ := ib
          rw [hg] at h
          simp only [Xgq] at h
          cases hw : wantsV b (t.getD i .undef) with
          | none => rw [hw] at h; cases h
          | some w =>
            rw [hw] at h
            have hw' : wants t c.guard = some w := by rw [hg, wants_V, hw]
            cases w with
            | true => exact runq hq hw' _ rfl h
            | false => exact skip hw' h
      | false =>
        rw [hq] at h
        simp only [cond_false] at h
        cases hx : isX c.op with
        | false => rw [hx] at h; cases h
        | true =>
          rw [hx] at h
          simp only [cond_true] at h
          cases hg : c.guard with
          | none => rw [hg] at h; exact runx hx (by rw [hg]; rfl) _ rfl h
          | some ib =>
            obtain ⟨i, b⟩ := ib
            rw [hg] at h
            simp only [Xpg] at h
            cases hw : wantsV b (t.getD i .undef) with
            | none => rw [hw] at h; cases h
            | some w =>
              rw [hw] at h
              have hw' : wants t c.guard = some w := by rw [hg, wants_V, hw]
              cases w with
              | true => exact runx hx hw' _ rfl h
              | false => exact skip hw' (by simpa using h)
theorem roundsK_eq {keep : List Nat} {body : List AV → Objs → Kont → Out} {f : St → Option (XE × St)} (hb : ∀ t o k r, body t o k = some r → thenK k (f ⟨t, o⟩) = some r) : ∀ (m : Nat) (t : List AV) (o : Objs) (k : Kont) (r : AV), roundsK keep body m (maskT keep 0 t) (maskO keep o) k = some r → thenK k (denC.rounds keep f m ⟨t, o⟩) = some r
  | 0, _, _, _, _, h => by cases h
  | m + 1, t, o, k, r, h => by
    simp only [roundsK] at h
    have h1 := hb _ _ _ _ h
    simp only [denC.rounds, St.mask]
    cases hf : f ⟨maskT keep 0 t, maskO keep o⟩ with
    | none => rw [hf] at h1; cases h1
    | some p =>
      rw [hf] at h1
      obtain ⟨e, σ⟩ := p
      cases e with
      | normal => exact roundsK_eq hb m σ.t σ.o k r h1
      | exit i => exact h1
      | ret => exact h1
theorem denK_eq (n : Nat) : ∀ (c : CC) (t : List AV) (o : Objs) (k : Kont) (r : AV), denK call G V n c t o k = some r → thenK k (denC call G n c ⟨t, o⟩) = some r
  | .skip, t, o, k, r, h => h
  | .exit i, t, o, k, r, h => h
  | .ret, t, o, k, r, h => h
  | .bad, t, o, k, r, h => by cases h
  | .reg pre suf, t, o, k, r, h => by
    simp only [denC]
    have later : ∀ (t : List AV) (o : Objs), opsK call G V suf t o (fun t o => k .normal t o) = some r → thenK k ((denOs call G suf ⟨t, o⟩).bind fun σ' => some (.normal, σ')) = some r := by
      intro t o h
      have h1 := opsK_eq suf t o _ r h
      cases hd : denOs call G suf ⟨t, o⟩ with
      | none => rw [hd] at h1; cases h1
      | some σ => rw [hd] at h1; exact h1
    cases pre with
    | nil =>
      have := later t o h
      simpa [denPs, St.pds, sealO, lensOf, setLens] using this
    | cons c l =>
      simp only [denK] at h
      obtain ⟨D, h1, h2⟩ := preK_eq o (c :: l) t [] [] [] _ r h
      rw [h1]
      simp only [Option.bind_some, St.pds]
      have := later _ _ h2
      simpa [finO, addO_eq, finL_eq] using this
  | .seq a b, t, o, k, r, h => by
    simp only [denK] at h
    have h1 := denK_eq n a t o _ r h
    simp only [denC]
    cases hd : denC call G n a ⟨t, o⟩ with
    | none => rw [hd] at h1; cases h1
    | some p =>
      rw [hd] at h1
      obtain ⟨e, σ⟩ := p
      cases e with
      | normal => exact denK_eq n b σ.t σ.o k r h1
      | exit i => exact h1
      | ret => exact h1
  | .cond c a b, t, o, k, r, h => by
    simp only [denK, Xc] at h
    simp only [denC]
    cases hc : ev t G c with
    | v x =>
      rw [hc] at h
      cases x with
      | bool v =>
        cases v with
        | true => exact denK_eq n a t o k r h
        | false => exact denK_eq n b t o k r h
      | _ => cases h
    | _ => rw [hc] at h; cases h
  | .block id a, t, o, k, r, h => by
    simp only [denK] at h
    have h1 := denK_eq n a t o _ r h
    simp only [denC]
    cases hd : denC call G n a ⟨t, o⟩ with
    | none => rw [hd] at h1; cases h1
    | some p =>
      rw [hd] at h1
      obtain ⟨e, σ⟩ := p
      cases e with
      | normal => exact h1
      | ret => exact h1
      | exit i =>
        simp only [thenK, kBlock] at h1
        simp only [Option.bind_some]
        by_cases hi : i = id
        · rw [if_pos hi]
          subst hi
          simp only [beq_self_eq_true, cond_true] at h1
          exact h1
        · rw [if_neg hi]
          have : (i == id) = false := by simpa using hi
          rw [this] at h1
          exact h1
  | .loop keep a, t, o, k, r, h => by
    simp only [denK] at h
    exact roundsK_eq (fun t o k r h => denK_eq n a t o k r h) n t o k r h
theorem getRs_seq {σ : St} {rs : List AV} : ∀ {res : List CR}, seqR (res.map (resK σ.t σ.o)) = some rs → getRs σ res = some rs := by
  intro res
  induction res generalizing rs with
  | nil => intro h; simpa [seqR, getRs] using h
  | cons c l ih =>
    intro h
    have hg : resK σ.t σ.o c = getR σ c := by cases c <;> rfl
    simp only [List.map_cons] at h
    rw [hg] at h
    simp only [getRs]
    cases hc : getR σ c with
    | none => rw [hc] at h; cases h
    | some x =>
      rw [hc] at h
      simp only [seqR] at h
      obtain ⟨m, hm, rfl⟩ := Option.map_eq_some_iff.1 h
      rw [ih hm]
      rfl
theorem denFK_eq {n : Nat} {f : CF} {args : List AV} {r : AV} (hl : args.length = f.nargs) (h : denFK call G V n f args = some r) : denF call G n f args = some r := by
  unfold denFK at h
  unfold denF
  rw [if_pos hl]
  have h1 := denK_eq n f.code _ _ _ r h
  cases hd : denC call G n f.code { t := args ++ List.replicate (f.ntmps - args.length) .undef, o := [] } with
  | none => rw [hd] at h1; cases h1
  | some p =>
    rw [hd] at h1
    obtain ⟨e, σ⟩ := p
    have fin : Xr σ.o (f.res.map (resK σ.t σ.o)) = some r → ((getRs σ f.res).bind fun rs => outF σ rs) = some r := by
      intro h
      unfold Xr at h
      cases hs : seqR (f.res.map (resK σ.t σ.o)) with
      | none => rw [hs] at h; cases h
      | some rs =>
        rw [hs] at h
        rw [getRs_seq hs]
        exact h
    cases e with
    | exit i => cases h1
    | normal => exact fin h1
    | ret => exact fin h1
def denBK (call : Call) (G : Nat → AV) (V : List Nat) (n : Nat) (f : CF) (ls as : List AV) : Out := denK call G V n f.code (as ++ List.replicate (f.ntmps - as.length) .undef) (lendIn ls) (kEndB ls f.res)
theorem denBK_eq {n : Nat} {f : CF} {ls as : List AV} {r : AV} (hl : as.length = f.nargs) (h : denBK call G V n f ls as = some r) : denB call G n f (.tup ls :: as) = some r := by
  unfold denBK at h
  simp only [denB]
  rw [if_pos hl]
  have h1 := denK_eq n f.code _ _ _ r h
  cases hd : denC call G n f.code { t := as ++ List.replicate (f.ntmps - as.length) .undef, o := lendIn ls } with
  | none => rw [hd] at h1; cases h1
  | some p =>
    rw [hd] at h1
    obtain ⟨e, σ⟩ := p
    have fin : XrB σ.o ls (f.res.map (resK σ.t σ.o)) = some r → ((getRs σ f.res).bind fun rs => (lendOut σ.o 0 ls).bind fun bs => outB σ ls (rs ++ bs)) = some r := by
      intro h
      unfold XrB at h
      cases hs : seqR (f.res.map (resK σ.t σ.o)) with
      | none => rw [hs] at h; cases h
      | some rs =>
        rw [hs] at h
        rw [getRs_seq hs]
        exact h
    cases e with
    | exit i => cases h1
    | normal => exact fin h1
    | ret => exact fin h1
theorem D_runK {defs : FuncId → Option CF} {prims : Call} {f : FuncId} {args : List AV} {r : AV} {cf : CF} (n : Nat) (hp : prims f args = none) (hd : defs f = some cf) (hl : args.length = cf.nargs) (h : denFK (D defs prims G) G V n cf args = some r) (hh : headL args = false := by rfl) : D defs prims G f args = some r :=
  D_run hp hd hh (denFK_eq hl h)
end
end Go.Proofs.YtmhdapjmndfkgaaGreatDoor.Eng
namespace Go.Proofs.YtmhdapjmndfkgaaGreatDoor.Eng
open Go
abbrev Env := Nat → AV
def evE (e : Env) (G : Nat → AV) : CX → AV
  | .t i => e i
  | .c a => a
  | .g n => G n
def upd (e : Env) (d : Nat) (x : AV) : Env := fun i => bif Nat.beq i d then x else e i
def envOf : List Nat → List AV → Env
  | i :: ks, v :: vs => fun j => bif Nat.beq j i then v else envOf ks vs j
  | _, _ => fun _ => .undef
abbrev iB {α : Type} (b : Bool) (x y : α) : α := match b with
  | true => x
  | false => y
theorem iB_t {α : Type} {x y : α} : iB true x y = x := rfl
theorem iB_f {α : Type} {x y : α} : iB false x y = y := rfl
abbrev KontE := XE → Env → Objs → Out
section
variable (N : Nat) (call : Call) (G : Nat → AV)
abbrev putE (d : Option Nat) (x : AV) (e : Env) (k : Env → Out) : Out := match d with
  | none => k e
  | some d => iB (Nat.blt d N) (k (upd e d x)) none
def runE (g : Option (Nat × Bool)) (op : COp) (e : Env) (k : AV → Out) : Out := match g with
  | none => (match op with
    | .mv x => k (evE e G x)
    | op => Xq (op.sub (evE e G)) k ())
  | some (i, b) => Xgq (e i) b (op.sub (evE e G)) k ()
variable (V : List Nat)
def opE (g : Option (Nat × Bool)) (op : COp) (d : Option Nat) (e : Env) (o : Objs) (k : Env → Objs → Out) : Out := match op with
  | .st n a x => iB (inV V a) (match g with
    | none => Xv o n (evE e G a) (evE e G x) (fun o => putE N d (.tup []) e fun e => k e o) ()
    | some (i, b) => Xvg (e i) b o n (evE e G a) (evE e G x) (fun o => putE N d (.tup []) e fun e => k e o) ())
    (match g with
    | none => Xs o n (evE e G a) (evE e G x) (fun p o => putE N d (.tup []) (fun i => p (e i)) fun e => k e o) ()
    | some (i, b) => Xsg (e i) b o n (evE e G a) (evE e G x) (fun p o => putE N d (.tup []) (fun i => p (e i)) fun e => k e o) ())
  | .app str sz bytes x y => match d with
    | none => none
    | some d => match g with
      | none => Xa o d str sz bytes (evE e G x) (evE e G y) (fun x o => putE N (some d) x e fun e => k e o) ()
      | some (i, b) => Xag (e i) b o d str sz bytes (evE e G x) (evE e G y) (fun x o => putE N (some d) x e fun e => k e o) ()
  | .cut sz b s x y => match g with
    | some _ => none
    | none => match d with
      | none => none
      | some d => Xt o sz b (evE e G s) (evE e G x) (evE e G y) (fun p x o => putE N (some d) x (fun i => p (e i)) fun e => k e o) ()
  | .lend f fs l => match d with
    | none => none
    | some d => match g with
      | none => Xl call o d (.lend f fs (l.map (CX.sub (evE e G)))) (fun p x o => putE N (some d) x (fun i => p (e i)) fun e => k e o) ()
      | some (i, b) => Xlg call (e i) b o d (.lend f fs (l.map (CX.sub (evE e G)))) (fun p x o => putE N (some d) x (fun i => p (e i)) fun e => k e o) ()
  | op => iB (isQ op) (runE G g op e (fun x => putE N d x e fun e => k e o))
    (match d with
    | none => none
    | some d => match g with
      | none => Xx call o d (op.sub (evE e G)) (fun x o => putE N (some d) x e fun e => k e o) ()
      | some (i, b) => Xxg call (e i) b o d (op.sub (evE e G)) (fun x o => putE N (some d) x e fun e => k e o) ())
def opsE : List CO → Env → Objs → (Env → Objs → Out) → Out
  | [], e, o, k => k e o
  | c :: l, e, o, k => opE N call G V c.guard c.op c.dst e o fun e o => opsE l e o k
def preE (o : Objs) : List CO → Env → Objs → List Key → List (Key × Nat) → (Env → Objs → Out) → Out
  | [], e, new, seals, lens, k => k e (finL (finO o new seals) lens)
  | c :: l, e, new, seals, lens, k => match c.dst with
    | none => none
    | some d => match c.op with
      | .apd h str sz bytes x y => (match c.guard with
        | none => Xd new lens h str sz bytes (evE e G x) (evE e G y) (fun x ls => putE N (some d) x e fun e => preE o l e new seals ls k) ()
        | some (i, b) => Xdg (e i) b new lens h str sz bytes (evE e G x) (evE e G y) (fun x ls => putE N (some d) x e fun e => preE o l e new seals ls k) ())
      | op => iB (isQ op) (runE G c.guard op e (fun x => putE N (some d) x e fun e => preE o l e new seals lens k))
          (iB (isX op) (match c.guard with
        | none => Xp call o d (op.sub (evE e G)) (fun x n s => putE N (some d) x e fun e => preE o l e (new ++ n) (seals ++ s) lens k) ()
        | some (i, b) => Xpg call (e i) b o d (op.sub (evE e G)) (fun x n s => putE N (some d) x e fun e => preE o l e (new ++ n) (seals ++ s) lens k) ())
      none)
abbrev eSeq (f : Env → Objs → KontE → Out) (k : KontE) : KontE := fun ev e o => match ev with
  | .normal => f e o k
  | ev => k ev e o
abbrev eBlock (id : Nat) (k : KontE) : KontE := fun ev e o => match ev with
  | .exit i => iB (Nat.beq i id) (k .normal e o) (k (.exit i) e o)
  | ev => k ev e o
def roundsE (keep : List Nat) (body : Env → Objs → KontE → Out) : Nat → List AV → Objs → KontE → Out
  | 0, _, _, _ => none
  | m + 1, vs, o, k => body (envOf keep vs) o fun ev e o => match ev with
    | .normal => roundsE keep body m (keep.map fun i => msk keep (e i)) (maskO keep o) k
    | ev => k ev e o
abbrev eLoop (keep : List Nat) (body : Env → Objs → KontE → Out) (m : Nat) (k : KontE) : KontE := fun ev e o => match ev with
  | .normal => roundsE keep body m (keep.map fun i => msk keep (e i)) (maskO keep o) k
  | ev => k ev e o
def denE (n : Nat) : CC → Env → Objs → KontE → Out
  | .skip, e, o, k => k .normal e o
  | .reg pre suf, e, o, k => match pre with
    | [] => opsE N call G V suf e o fun e o => k .normal e o
    | c :: l => preE N call G o (c :: l) e [] [] [] fun e o => opsE N call G V suf e o fun e o => k .normal e o
  | .seq a b, e, o, k => denE n a e o (eSeq (denE n b) k)
  | .cond c a b, e, o, k => Xc (evE e G c) (fun _ => denE n a e o k) (fun _ => denE n b e o k) () ()
  | .block id a, e, o, k => denE n a e o (eBlock id k)
  | .loop keep a, e, o, k => roundsE keep (denE n a) n (keep.map fun i => msk keep (e i)) (maskO keep o) k
  | .exit i, e, o, k => k (.exit i) e o
  | .ret, e, o, k => k .ret e o
  | .bad, _, _, _ => none
end
def resE (e : Env) (o : Objs) : CR → Option AV
  | .t i => some (e i)
  | .cell a ag n => cellR o (e a) ag n
abbrev eEnd (res : List CR) : KontE := fun ev e o => match ev with
  | .exit _ => none
  | _ => Xr o (res.map (resE e o))
abbrev eEndB (ls : List AV) (res : List CR) : KontE := fun ev e o => match ev with
  | .exit _ => none
  | _ => XrB o ls (res.map (resE e o))
def envA (args : List AV) : Env := fun i => args.getD i .undef
def denFE (call : Call) (G : Nat → AV) (V : List Nat) (n : Nat) (f : CF) (args : List AV) : Out := iB (Nat.ble args.length f.ntmps) (denE f.ntmps call G V n f.code (envA args) [] (eEnd f.res)) none
def denBE (call : Call) (G : Nat → AV) (V : List Nat) (n : Nat) (f : CF) (ls as : List AV) : Out := iB (Nat.ble as.length f.ntmps) (denE f.ntmps call G V n f.code (envA as) (lendIn ls) (eEndB ls f.res)) none
instance : Coe AV CX := ⟨CX.c⟩
def nav : List Nat → CC → CC
  | [], c => c
  | b :: p, .seq x y => nav p (iB (Nat.beq b 0) x y)
  | b :: p, .cond _ x y => nav p (iB (Nat.beq b 0) x y)
  | _ :: p, .block _ x => nav p x
  | _ :: p, .loop _ x => nav p x
  | _, _ => .bad
section
variable (N : Nat) (call : Call) (G : Nat → AV) (V : List Nat) (n : Nat)
def kontP : List Nat → List Nat → CC → KontE → KontE
  | b :: p, ms, .seq x y, k => iB (Nat.beq b 0) (kontP p ms x (eSeq (denE N call G V n y) k)) (kontP p ms y k)
  | b :: p, ms, .cond _ x y, k => kontP p ms (iB (Nat.beq b 0) x y) k
  | _ :: p, ms, .block i x, k => kontP p ms x (eBlock i k)
  | _ :: p, m :: ms, .loop keep x, k => kontP p ms x (eLoop keep (denE N call G V n x) m k)
  | _, _, _, k => k
def RE (c : CC) (kend : KontE) (p ms : List Nat) (m : Nat) (ys : List AV) (o : Objs) : Out := match nav p c with
  | .loop keep x => roundsE keep (denE N call G V n x) m ys o (kontP N call G V n p ms c kend)
  | _ => none
end
def RR (c : CF) (V : List Nat) (call : Call) (G : Nat → AV) (n : Nat) (p ms : List Nat) (m : Nat) (ys : List AV) (o : Objs) : Out := RE c.ntmps call G V n c.code (eEnd c.res) p ms m ys o
def RRB (c : CF) (V : List Nat) (call : Call) (G : Nat → AV) (ls : List AV) (n : Nat) (p ms : List Nat) (m : Nat) (ys : List AV) (o : Objs) : Out := RE c.ntmps call G V n c.code (eEndB ls c.res) p ms m ys o
def M0 (ks : List Nat) (f : Objs → Out) (o : Objs) : Out := f (maskO ks o)
def M1 (ks : List Nat) (f : Objs → AV → Out) (o : Objs) (x1 : AV) : Out := f (maskO ks o) (msk ks x1)
def M2 (ks : List Nat) (f : Objs → AV → AV → Out) (o : Objs) (x1 x2 : AV) : Out := f (maskO ks o) (msk ks x1) (msk ks x2)
def M3 (ks : List Nat) (f : Objs → AV → AV → AV → Out) (o : Objs) (x1 x2 x3 : AV) : Out := f (maskO ks o) (msk ks x1) (msk ks x2) (msk ks x3)
def M4 (ks : List Nat) (f : Objs → AV → AV → AV → AV → Out) (o : Objs) (x1 x2 x3 x4 : AV) : Out := f (maskO ks o) (msk ks x1) (msk ks x2) (msk ks x3) (msk ks x4)
def M5 (ks : List Nat) (f : Objs → AV → AV → AV → AV → AV → Out) (o : Objs) (x1 x2 x3 x4 x5 : AV) : Out := f (maskO ks o) (msk ks x1) (msk ks x2) (msk ks x3) (msk ks x4) (msk ks x5)
def M6 (ks : List Nat) (f : Objs → AV → AV → AV → AV → AV → AV → Out) (o : Objs) (x1 x2 x3 x4 x5 x6 : AV) : Out := f (maskO ks o) (msk ks x1) (msk ks x2) (msk ks x3) (msk ks x4) (msk ks x5) (msk ks x6)
def M7 (ks : List Nat) (f : Objs → AV → AV → AV → AV → AV → AV → AV → Out) (o : Objs) (x1 x2 x3 x4 x5 x6 x7 : AV) : Out := f (maskO ks o) (msk ks x1) (msk ks x2) (msk ks x3) (msk ks x4) (msk ks x5) (msk ks x6) (msk ks x7)
def M8 (ks : List Nat) (f : Objs → AV → AV → AV → AV → AV → AV → AV → AV → Out) (o : Objs) (x1 x2 x3 x4 x5 x6 x7 x8 : AV) : Out := f (maskO ks o) (msk ks x1) (msk ks x2) (msk ks x3) (msk ks x4) (msk ks x5) (msk ks x6) (msk ks x7) (msk ks x8)
def M9 (ks : List Nat) (f : Objs → AV → AV → AV → AV → AV → AV → AV → AV → AV → Out) (o : Objs) (x1 x2 x3 x4 x5 x6 x7 x8 x9 : AV) : Out := f (maskO ks o) (msk ks x1) (msk ks x2) (msk ks x3) (msk ks x4) (msk ks x5) (msk ks x6) (msk ks x7) (msk ks x8) (msk ks x9)
def M10 (ks : List Nat) (f : Objs → AV → AV → AV → AV → AV → AV → AV → AV → AV → AV → Out) (o : Objs) (x1 x2 x3 x4 x5 x6 x7 x8 x9 x10 : AV) : Out := f (maskO ks o) (msk ks x1) (msk ks x2) (msk ks x3) (msk ks x4) (msk ks x5) (msk ks x6) (msk ks x7) (msk ks x8) (msk ks x9) (msk ks x10)
def M11 (ks : List Nat) (f : Objs → AV → AV → AV → AV → AV → AV → AV → AV → AV → AV → AV → Out) (o : Objs) (x1 x2 x3 x4 x5 x6 x7 x8 x9 x10 x11 : AV) : Out := f (maskO ks o) (msk ks x1) (msk ks x2) (msk ks x3) (msk ks x4) (msk ks x5) (msk ks x6) (msk ks x7) (msk ks x8) (msk ks x9) (msk ks x10) (msk ks x11)
def M12 (ks : List Nat) (f : Objs → AV → AV → AV → AV → AV → AV → AV → AV → AV → AV → AV → AV → Out) (o : Objs) (x1 x2 x3 x4 x5 x6 x7 x8 x9 x10 x11 x12 : AV) : Out := f (maskO ks o) (msk ks x1) (msk ks x2) (msk ks x3) (msk ks x4) (msk ks x5) (msk ks x6) (msk ks x7) (msk ks x8) (msk ks x9) (msk ks x10) (msk ks x11) (msk ks x12)
def M13 (ks : List Nat) (f : Objs → AV → AV → AV → AV → AV → AV → AV → AV → AV → AV → AV → AV → AV → Out) (o : Objs) (x1 x2 x3 x4 x5 x6 x7 x8 x9 x10 x11 x12 x13 : AV) : Out := f (maskO ks o) (msk ks x1) (msk ks x2) (msk ks x3) (msk ks x4) (msk ks x5) (msk ks x6) (msk ks x7) (msk ks x8) (msk ks x9) (msk ks x10) (msk ks x11) (msk ks x12) (msk ks x13)
def M14 (ks : List Nat) (f : Objs → AV → AV → AV → AV → AV → AV → AV → AV → AV → AV → AV → AV → AV → AV → Out) (o : Objs) (x1 x2 x3 x4 x5 x6 x7 x8 x9 x10 x11 x12 x13 x14 : AV) : Out := f (maskO ks o) (msk ks x1) (msk ks x2) (msk ks x3) (msk ks x4) (msk ks x5) (msk ks x6) (msk ks x7) (msk ks x8) (msk ks x9) (msk ks x10) (msk ks x11) (msk ks x12) (msk ks x13) (msk ks x14)
def M15 (ks : List Nat) (f : Objs → AV → AV → AV → AV → AV → AV → AV → AV → AV → AV → AV → AV → AV → AV → AV → Out) (o : Objs) (x1 x2 x3 x4 x5 x6 x7 x8 x9 x10 x11 x12 x13 x14 x15 : AV) : Out := f (maskO ks o) (msk ks x1) (msk ks x2) (msk ks x3) (msk ks x4) (msk ks x5) (msk ks x6) (msk ks x7) (msk ks x8) (msk ks x9) (msk ks x10) (msk ks x11) (msk ks x12) (msk ks x13) (msk ks x14) (msk ks x15)
def M16 (ks : List Nat) (f : Objs → AV → AV → AV → AV → AV → AV → AV → AV → AV → AV → AV → AV → AV → AV → AV → AV → Out) (o : Objs) (x1 x2 x3 x4 x5 x6 x7 x8 x9 x10 x11 x12 x13 x14 x15 x16 : AV) : Out := f (maskO ks o) (msk ks x1) (msk ks x2) (msk ks x3) (msk ks x4) (msk ks x5) (msk ks x6) (msk ks x7) (msk ks x8) (msk ks x9) (msk ks x10) (msk ks x11) (msk ks x12) (msk ks x13) (msk ks x14) (msk ks x15) (msk ks x16)
def M17 (ks : List Nat) (f : Objs → AV → AV → AV → AV → AV → AV → AV → AV → AV → AV → AV → AV → AV → AV → AV → AV → AV → Out) (o : Objs) (x1 x2 x3 x4 x5 x6 x7 x8 x9 x10 x11 x12 x13 x14 x15 x16 x17 : AV) : Out := f (maskO ks o) (msk ks x1) (msk ks x2) (msk ks x3) (msk ks x4) (msk ks x5) (msk ks x6) (msk ks x7) (msk ks x8) (msk ks x9) (msk ks x10) (msk ks x11) (msk ks x12) (msk ks x13) (msk ks x14) (msk ks x15) (msk ks x16) (msk ks x17)
def M18 (ks : List Nat) (f : Objs → AV → AV → AV → AV → AV → AV → AV → AV → AV → AV → AV → AV → AV → AV → AV → AV → AV → AV → Out) (o : Objs) (x1 x2 x3 x4 x5 x6 x7 x8 x9 x10 x11 x12 x13 x14 x15 x16 x17 x18 : AV) : Out := f (maskO ks o) (msk ks x1) (msk ks x2) (msk ks x3) (msk ks x4) (msk ks x5) (msk ks x6) (msk ks x7) (msk ks x8) (msk ks x9) (msk ks x10) (msk ks x11) (msk ks x12) (msk ks x13) (msk ks x14) (msk ks x15) (msk ks x16) (msk ks x17) (msk ks x18)
def M19 (ks : List Nat) (f : Objs → AV → AV → AV → AV → AV → AV → AV → AV → AV → AV → AV → AV → AV → AV → AV → AV → AV → AV → AV → Out) (o : Objs) (x1 x2 x3 x4 x5 x6 x7 x8 x9 x10 x11 x12 x13 x14 x15 x16 x17 x18 x19 : AV) : Out := f (maskO ks o) (msk ks x1) (msk ks x2) (msk ks x3) (msk ks x4) (msk ks x5) (msk ks x6) (msk ks x7) (msk ks x8) (msk ks x9) (msk ks x10) (msk ks x11) (msk ks x12) (msk ks x13) (msk ks x14) (msk ks x15) (msk ks x16) (msk ks x17) (msk ks x18) (msk ks x19)
def M20 (ks : List Nat) (f : Objs → AV → AV → AV → AV → AV → AV → AV → AV → AV → AV → AV → AV → AV → AV → AV → AV → AV → AV → AV → AV → Out) (o : Objs) (x1 x2 x3 x4 x5 x6 x7 x8 x9 x10 x11 x12 x13 x14 x15 x16 x17 x18 x19 x20 : AV) : Out := f (maskO ks o) (msk ks x1) (msk ks x2) (msk ks x3) (msk ks x4) (msk ks x5) (msk ks x6) (msk ks x7) (msk ks x8) (msk ks x9) (msk ks x10) (msk ks x11) (msk ks x12) (msk ks x13) (msk ks x14) (msk ks x15) (msk ks x16) (msk ks x17) (msk ks x18) (msk ks x19) (msk ks x20)
def M21 (ks : List Nat) (f : Objs → AV → AV → AV → AV → AV → AV → AV → AV → AV → AV → AV → AV → AV → AV → AV → AV → AV → AV → AV → AV → AV → Out) (o : Objs) (x1 x2 x3 x4 x5 x6 x7 x8 x9 x10 x11 x12 x13 x14 x15 x16 x17 x18 x19 x20 x21 : AV) : Out := f (maskO ks o) (msk ks x1) (msk ks x2) (msk ks x3) (msk ks x4) (msk ks x5) (msk ks x6) (msk ks x7) (msk ks x8) (msk ks x9) (msk ks x10) (msk ks x11) (msk ks x12) (msk ks x13) (msk ks x14) (msk ks x15) (msk ks x16) (msk ks x17) (msk ks x18) (msk ks x19) (msk ks x20) (msk ks x21)
def M22 (ks : List Nat) (f : Objs → AV → AV → AV → AV → AV → AV → AV → AV → AV → AV → AV → AV → AV → AV → AV → AV → AV → AV → AV → AV → AV → AV → Out) (o : Objs) (x1 x2 x3 x4 x5 x6 x7 x8 x9 x10 x11 x12 x13 x14 x15 x16 x17 x18 x19 x20 x21 x22 : AV) : Out := f (maskO ks o) (msk ks x1) (msk ks x2) (msk ks x3) (msk ks x4) (msk ks x5) (msk ks x6) (msk ks x7) (msk ks x8) (msk ks x9) (msk ks x10) (msk ks x11) (msk ks x12) (msk ks x13) (msk ks x14) (msk ks x15) (msk ks x16) (msk ks x17) (msk ks x18) (msk ks x19) (msk ks x20) (msk ks x21) (msk ks x22)
def M23 (ks : List Nat) (f : Objs → AV → AV → AV → AV → AV → AV → AV → AV → AV → AV → AV → AV → AV → AV → AV → AV → AV → AV → AV → AV → AV → AV → AV → Out) (o : Objs) (x1 x2 x3 x4 x5 x6 x7 x8 x9 x10 x11 x12 x13 x14 x15 x16 x17 x18 x19 x20 x21 x22 x23 : AV) : Out := f (maskO ks o) (msk ks x1) (msk ks x2) (msk ks x3) (msk ks x4) (msk ks x5) (msk ks x6) (msk ks x7) (msk ks x8) (msk ks x9) (msk ks x10) (msk ks x11) (msk ks x12) (msk ks x13) (msk ks x14) (msk ks x15) (msk ks x16) (msk ks x17) (msk ks x18) (msk ks x19) (msk ks x20) (msk ks x21) (msk ks x22) (msk ks x23)
def M24 (ks : List Nat) (f : Objs → AV → AV → AV → AV → AV → AV → AV → AV → AV → AV → AV → AV → AV → AV → AV → AV → AV → AV → AV → AV → AV → AV → AV → AV → Out) (o : Objs) (x1 x2 x3 x4 x5 x6 x7 x8 x9 x10 x11 x12 x13 x14 x15 x16 x17 x18 x19 x20 x21 x22 x23 x24 : AV) : Out := f (maskO ks o) (msk ks x1) (msk ks x2) (msk ks x3) (msk ks x4) (msk ks x5) (msk ks x6) (msk ks x7) (msk ks x8) (msk ks x9) (msk ks x10) (msk ks x11) (msk ks x12) (msk ks x13) (msk ks x14) (msk ks x15) (msk ks x16) (msk ks x17) (msk ks x18) (msk ks x19) (msk ks x20) (msk ks x21) (msk ks x22) (msk ks x23) (msk ks x24)
def M25 (ks : List Nat) (f : Objs → AV → AV → AV → AV → AV → AV → AV → AV → AV → AV → AV → AV → AV → AV → AV → AV → AV → AV → AV → AV → AV → AV → AV → AV → AV → Out) (o : Objs) (x1 x2 x3 x4 x5 x6 x7 x8 x9 x10 x11 x12 x13 x14 x15 x16 x17 x18 x19 x20 x21 x22 x23 x24 x25 : AV) : Out := f (maskO ks o) (msk ks x1) (msk ks x2) (msk ks x3) (msk ks x4) (msk ks x5) (msk ks x6) (msk ks x7) (msk ks x8) (msk ks x9) (msk ks x10) (msk ks x11) (msk ks x12) (msk ks x13) (msk ks x14) (msk ks x15) (msk ks x16) (msk ks x17) (msk ks x18) (msk ks x19) (msk ks x20) (msk ks x21) (msk ks x22) (msk ks x23) (msk ks x24) (msk ks x25)
def M26 (ks : List Nat) (f : Objs → AV → AV → AV → AV → AV → AV → AV → AV → AV → AV → AV → AV → AV → AV → AV → AV → AV → AV → AV → AV → AV → AV → AV → AV → AV → AV → Out) (o : Objs) (x1 x2 x3 x4 x5 x6 x7 x8 x9 x10 x11 x12 x13 x14 x15 x16 x17 x18 x19 x20 x21 x22 x23 x24 x25 x26 : AV) : Out := f (maskO ks o) (msk ks x1) (msk ks x2) (msk ks x3) (msk ks x4) (msk ks x5) (msk ks x6) (msk ks x7) (msk ks x8) (msk ks x9) (msk ks x10) (msk ks x11) (msk ks x12) (msk ks x13) (msk ks x14) (msk ks x15) (msk ks x16) (msk ks x17) (msk ks x18) (msk ks x19) (msk ks x20) (msk ks x21) (msk ks x22) (msk ks x23) (msk ks x24) (msk ks x25) (msk ks x26)
section
variable {N : Nat} {call : Call} {G : Nat → AV} {V : List Nat} {r : AV}
structure Rel (N : Nat) (t : List AV) (e : Env) : Prop where
  len : t.length = N
  at_ : ∀ i, e i = t.getD i .undef
variable {t : List AV} {e : Env}
theorem Rel.ev (h : Rel N t e) : evE e G = ev t G := by
  funext x
  cases x with
  | t i => exact h.at_ i
  | _ => rfl
theorem Rel.upd (h : Rel N t e) {d : Nat} (hd : Nat.blt d N = true) (x : AV) : Rel N (t.set d x) (upd e d x) := by
  have hd : d < N := Nat.le_of_ble_eq_true hd
  refine ⟨by simpa using h.len, fun i => ?_⟩
  unfold Eng.upd
  by_cases hi : i = d
  · subst hi
    simp [List.getD_eq_getElem?_getD, h.len, hd]
  · have : Nat.beq i d = false := by
      cases hb : Nat.beq i d with
      | false => rfl
      | true => exact absurd (Nat.eq_of_beq_eq_true hb) hi
    rw [this, h.at_ i]
    simp [List.getD_eq_getElem?_getD, List.getElem?_set_ne (Ne.symm hi)]
theorem Rel.map (h : Rel N t e) (p : AV → AV) (hp : p .undef = .undef) : Rel N (t.map p) (fun i => p (e i)) := by
  refine ⟨by simpa using h.len, fun i => ?_⟩
  rw [h.at_ i]
  simp only [List.getD_eq_getElem?_getD, List.getElem?_map]
  cases t[i]? with
  | none => simpa using hp
  | some x => rfl
theorem Xq_le {op : COp} {k k' : AV → Out} {u : Tag k} {u' : Tag k'} (hk : ∀ x, k x = some r → k' x = some r) (h : Xq op k u = some r) : Xq op k' u' = some r := by
  unfold Xq at h ⊢
  cases hv : qv op with
  | none => rw [hv] at h; cases h
  | some x => rw [hv] at h; exact hk x h
theorem Xgq_le {x : AV} {b : Bool} {op : COp} {k k' : AV → Out} {u : Tag k} {u' : Tag k'} (hk : ∀ x, k x = some r → k' x = some r) (h : Xgq x b op k u = some r) : Xgq x b op k' u' = some r := by
  unfold Xgq at h ⊢
  cases hw : wantsV b x with
  | none => rw [hw] at h; cases h
  | some w =>
    rw [hw] at h
    cases w with
    | true => exact Xq_le hk h
    | false => exact hk _ h
theorem Xx_le {o : Objs} {d : Nat} {op : COp} {k k' : AV → Objs → Out} {u : Tag k} {u' : Tag k'} (hk : ∀ x o, k x o = some r → k' x o = some r) (h : Xx call o d op k u = some r) : Xx call o d op k' u' = some r := by
  unfold Xx at h ⊢
  cases hv : denX call noG [] (getO o) d (countO d o) op with
  | none => rw [hv] at h; cases h
  | some q =>
    rw [hv] at h
    simp only at h ⊢
    cases hf : freshO o q.new with
    | false => rw [hf] at h; cases h
    | true => rw [hf] at h; exact hk _ _ h
theorem Xxg_le {x : AV} {b : Bool} {o : Objs} {d : Nat} {op : COp} {k k' : AV → Objs → Out} {u : Tag k} {u' : Tag k'} (hk : ∀ x o, k x o = some r → k' x o = some r) (h : Xxg call x b o d op k u = some r) : Xxg call x b o d op k' u' = some r := by
  unfold Xxg at h ⊢
  cases hw : wantsV b x with
  | none => rw [hw] at h; cases h
  | some w =>
    rw [hw] at h
    cases w with
    | true => exact Xx_le hk h
    | false => exact hk _ _ h
theorem Xp_le {o : Objs} {d : Nat} {op : COp} {k k' : AV → Objs → List Key → Out} {u : Tag k} {u' : Tag k'} (hk : ∀ x o s, k x o s = some r → k' x o s = some r) (h : Xp call o d op k u = some r) : Xp call o d op k' u' = some r := by
  unfold Xp at h ⊢
  cases hv : denX call noG [] (getO o) d (countO d o) op with
  | none => rw [hv] at h; cases h
  | some q =>
    rw [hv] at h
    simp only at h ⊢
    cases hf : (freshO o q.new && q.new.all fun p => p.1.1 == d) with
    | false => rw [hf] at h; cases h
    | true => rw [hf] at h; exact hk _ _ _ h
theorem Xpg_le {x : AV} {b : Bool} {o : Objs} {d : Nat} {op : COp} {k k' : AV → Objs → List Key → Out} {u : Tag k} {u' : Tag k'} (hk : ∀ x o s, k x o s = some r → k' x o s = some r) (h : Xpg call x b o d op k u = some r) : Xpg call x b o d op k' u' = some r := by
  unfold Xpg at h ⊢
  cases hw : wantsV b x with
  | none => rw [hw] at h; cases h
  | some w =>
    rw [hw] at h
    cases w with
    | true => exact Xp_le hk h
    | false => exact hk _ _ _ h
theorem Xv_le {o : Objs} {n : Nat} {a x : AV} {k k' : Objs → Out} {u : Tag k} {u' : Tag k'} (hk : ∀ o, k o = some r → k' o = some r) (h : Xv o n a x k u = some r) : Xv o n a x k' u' = some r := by
  unfold Xv at h ⊢
  cases a with
  | ptr q off =>
    simp only at h ⊢
    cases hg : getO o q with
    | none => rw [hg] at h; cases h
    | some ob =>
      rw [hg] at h
      cases ob with
      | var cs s =>
        cases s with
        | true => cases h
        | false =>
          simp only at h ⊢
          cases hc : (decide ((cellsOf x).length = n) && decide (off + n ≤ cs.length) && solid x) with
          | false => rw [hc] at h; cases h
          | true => rw [hc] at h; exact hk _ h
      | _ => cases h
  | _ => cases h
theorem Xvg_le {g : AV} {b : Bool} {o : Objs} {n : Nat} {a x : AV} {k k' : Objs → Out} {u : Tag k} {u' : Tag k'} (hk : ∀ o, k o = some r → k' o = some r) (h : Xvg g b o n a x k u = some r) : Xvg g b o n a x k' u' = some r := by
  unfold Xvg at h ⊢
  cases hw : wantsV b g with
  | none => rw [hw] at h; cases h
  | some w =>
    rw [hw] at h
    cases w with
    | true => exact Xv_le hk h
    | false => exact hk _ h
theorem putT_undef {q : Key} {i f : Nat} {l : List AV} : putT q i f l .undef = .undef := rfl
theorem Xs_le {o : Objs} {n : Nat} {a x : AV} {k k' : (AV → AV) → Objs → Out} {u : Tag k} {u' : Tag k'} (hk : ∀ p o, p .undef = .undef → k p o = some r → k' p o = some r) (h : Xs o n a x k u = some r) : Xs o n a x k' u' = some r := by
  unfold Xs at h ⊢
  cases a with
  | ptr q off =>
    simp only at h ⊢
    cases hg : getO o q with
    | none => rw [hg] at h; cases h
    | some ob =>
      rw [hg] at h
      cases ob with
      | var cs s =>
        cases s with
        | true => cases h
        | false =>
          simp only at h ⊢
          cases hc : (decide ((cellsOf x).length = n) && decide (off + n ≤ cs.length) && solid x) with
          | false => rw [hc] at h; cases h
          | true => rw [hc] at h; exact hk _ _ rfl h
      | _ => cases h
  | eptr q i off cs =>
    simp only at h ⊢
    cases hg : getO o q with
    | none => rw [hg] at h; cases h
    | some ob =>
      rw [hg] at h
      cases ob with
      | tail l sz mu shr =>
        cases mu with
        | false => cases h
        | true =>
          simp only at h ⊢
          cases hy : frz x with
          | none => rw [hy] at h; cases h
          | some y =>
            rw [hy] at h
            simp only at h ⊢
            cases hc : (decide ((cellsOf y).length = n) && decide (n ≤ cs.length) && !(keys x).contains q) with
            | false => rw [hc] at h; cases h
            | true => rw [hc] at h; exact hk _ _ putT_undef h
      | _ => cases h
  | _ => cases h
theorem Xsg_le {g : AV} {b : Bool} {o : Objs} {n : Nat} {a x : AV} {k k' : (AV → AV) → Objs → Out} {u : Tag k} {u' : Tag k'} (hk : ∀ p o, p .undef = .undef → k p o = some r → k' p o = some r) (h : Xsg g b o n a x k u = some r) : Xsg g b o n a x k' u' = some r := by
  unfold Xsg at h ⊢
  cases hw : wantsV b g with
  | none => rw [hw] at h; cases h
  | some w =>
    rw [hw] at h
    cases w with
    | true => exact Xs_le hk h
    | false => exact hk _ _ rfl h
theorem Xa_le {o : Objs} {d : Nat} {str : Bool} {sz : Sz} {b : Nat} {x y : AV} {k k' : AV → Objs → Out} {u : Tag k} {u' : Tag k'} (hk : ∀ x o, k x o = some r → k' x o = some r) (h : Xa o d str sz b x y k u = some r) : Xa o d str sz b x y k' u' = some r := by
  unfold Xa at h ⊢
  cases hv : appV o d str sz b x y with
  | none => rw [hv] at h; cases h
  | some p => rw [hv] at h; exact hk _ _ h
theorem Xag_le {g : AV} {b' : Bool} {o : Objs} {d : Nat} {str : Bool} {sz : Sz} {b : Nat} {x y : AV} {k k' : AV → Objs → Out} {u : Tag k} {u' : Tag k'} (hk : ∀ x o, k x o = some r → k' x o = some r) (h : Xag g b' o d str sz b x y k u = some r) : Xag g b' o d str sz b x y k' u' = some r := by
  unfold Xag at h ⊢
  cases hw : wantsV b' g with
  | none => rw [hw] at h; cases h
  | some w =>
    rw [hw] at h
    cases w with
    | true => exact Xa_le hk h
    | false => exact hk _ _ h
theorem lendR_undef {o : Objs} {d : Nat} {f : FuncId} {fs : List Bool} {l : List CX} {G : Nat → AV} {t : List AV} {q : (AV → AV) × AV × Objs} (h : lendR call G t o d f fs l = some q) : q.1 .undef = .undef := by
  simp only [lendR, Option.bind_eq_some_iff] at h
  obtain ⟨who, _, cs, _, ls, _, as, _, r, _, h⟩ := h
  split at h
  · split at h
    · cases h; rfl
    · cases h
  · cases h
theorem Xl_le {o : Objs} {d : Nat} {op : COp} {k k' : (AV → AV) → AV → Objs → Out} {u : Tag k} {u' : Tag k'} (hk : ∀ p x o, p .undef = .undef → k p x o = some r → k' p x o = some r) (h : Xl call o d op k u = some r) : Xl call o d op k' u' = some r := by
  unfold Xl at h ⊢
  cases op with
  | lend f fs l =>
    simp only at h ⊢
    cases hl : lendR call noG [] o d f fs l with
    | none => rw [hl] at h; cases h
    | some q => rw [hl] at h; exact hk _ _ _ (lendR_undef hl) h
  | _ => cases h
theorem Xlg_le {g : AV} {b : Bool} {o : Objs} {d : Nat} {op : COp} {k k' : (AV → AV) → AV → Objs → Out} {u : Tag k} {u' : Tag k'} (hk : ∀ p x o, p .undef = .undef → k p x o = some r → k' p x o = some r) (h : Xlg call g b o d op k u = some r) : Xlg call g b o d op k' u' = some r := by
  unfold Xlg at h ⊢
  cases hw : wantsV b g with
  | none => rw [hw] at h; cases h
  | some w =>
    rw [hw] at h
    cases w with
    | true => exact Xl_le hk h
    | false => exact hk _ _ _ rfl h
theorem Xt_le {o : Objs} {sz : Sz} {b : Nat} {s x y : AV} {k k' : (AV → AV) → AV → Objs → Out} {u : Tag k} {u' : Tag k'} (hk : ∀ p x o, p .undef = .undef → k p x o = some r → k' p x o = some r) (h : Xt o sz b s x y k u = some r) : Xt o sz b s x y k' u' = some r := by
  unfold Xt at h ⊢
  cases hl : cutV o sz b s x y with
  | none => rw [hl] at h; cases h
  | some q =>
    rw [hl] at h
    refine hk _ _ _ ?_ h
    unfold cutV at hl
    split at hl
    · split at hl
      · split at hl
        · cases hl; rfl
        · cases hl
      · cases hl
    · cases hl
theorem put_le {d : Option Nat} {x : AV} {k : Env → Out} {k' : List AV → Out} (hr : Rel N t e) (hk : ∀ t e, Rel N t e → k e = some r → k' t = some r) (h : putE N d x e k = some r) : k' (putD t d x) = some r := by
  cases d with
  | none => exact hk _ _ hr h
  | some d =>
    simp only [putE] at h
    cases hd : Nat.blt d N with
    | false => rw [hd] at h; cases h
    | true => rw [hd] at h; exact hk _ _ (hr.upd hd x) h
theorem run_le {g : Option (Nat × Bool)} {op : COp} {k k' : AV → Out} (hr : Rel N t e) (hk : ∀ x, k x = some r → k' x = some r) (h : runE G g op e k = some r) : runQ G g op t k' = some r := by
  rw [runQ_eq]
  unfold runE at h
  rw [hr.ev] at h
  cases g with
  | none =>
    have : Xq (op.sub (ev t G)) k () = some r := by cases op <;> exact h
    exact Xq_le hk this
  | some ib =>
    obtain ⟨i, b⟩ := ib
    simp only at h ⊢
    rw [← hr.at_ i]
    exact Xgq_le hk h
theorem op_le {g : Option (Nat × Bool)} {op : COp} {d : Option Nat} {o : Objs} {k : Env → Objs → Out} {k' : List AV → Objs → Out} (hr : Rel N t e) (hk : ∀ t e o, Rel N t e → k e o = some r → k' t o = some r) (h : opE N call G V g op d e o k = some r) : opK call G V g op d t o k' = some r := by
  have pk : ∀ (d : Option Nat) (x : AV) (o : Objs) (t : List AV) (e : Env), Rel N t e → putE N d x e (fun e => k e o) = some r → k' (putD t d x) o = some r := fun d x o t e hr h => put_le (k' := fun t => k' t o) hr (fun t e hr h => hk t e o hr h) h
  cases op
  case st n a x =>
    simp only [opE, hr.ev] at h
    simp only [opK]
    cases hv : inV V a with
    | true =>
      rw [hv] at h
      simp only [cond_true, iB_t] at h ⊢
      cases g with
      | none => exact Xv_le (fun o h => pk d _ o t e hr h) h
      | some ib =>
        obtain ⟨i, b⟩ := ib
        simp only at h ⊢
        rw [← hr.at_ i]
        exact Xvg_le (fun o h => pk d _ o t e hr h) h
    | false =>
      rw [hv] at h
      simp only [cond_false, iB_f] at h ⊢
      cases g with
      | none => exact Xs_le (fun p o hp h => pk d _ o _ _ (hr.map p hp) h) h
      | some ib =>
        obtain ⟨i, b⟩ := ib
        simp only at h ⊢
        rw [← hr.at_ i]
        exact Xsg_le (fun p o hp h => pk d _ o _ _ (hr.map p hp) h) h
  case app str sz bytes x y =>
    simp only [opE, hr.ev] at h
    cases d with
    | none => cases h
    | some d =>
      simp only [opK]
      cases g with
      | none => exact Xa_le (fun x o h => pk (some d) x o t e hr h) h
      | some ib =>
        obtain ⟨i, b⟩ := ib
        simp only at h ⊢
        rw [← hr.at_ i]
        exact Xag_le (fun x o h => pk (some d) x o t e hr h) h
  case cut sz b s x y =>
    simp only [opE, hr.ev] at h
    cases g with
    | some ib => cases h
    | none =>
      cases d with
      | none => cases h
      | some d =>
        simp only [opK]
        exact Xt_le (fun p x o hp h => pk (some d) x o _ _ (hr.map p hp) h) h
  case lend f fs l =>
    simp only [opE, hr.ev] at h
    cases d with
    | none => cases h
    | some d =>
      simp only [opK]
      cases g with
      | none => exact Xl_le (fun p x o hp h => pk (some d) x o _ _ (hr.map p hp) h) h
      | some ib =>
        obtain ⟨i, b⟩ := ib
        simp only at h ⊢
        rw [← hr.at_ i]
        exact Xlg_le (fun p x o hp h => pk (some d) x o _ _ (hr.map p hp) h) h
  all_goals
    simp only [opE, isQ, cond_true, cond_false, iB_t, iB_f] at h
    simp only [opK, isQ, cond_true, cond_false, iB_t, iB_f]
    first
    | exact run_le hr (fun x h => pk d x o t e hr h) h
    | (cases d with
       | none => cases h
       | some d =>
         rw [hr.ev] at h
         cases g with
         | none => exact Xx_le (fun x o h => pk (some d) x o t e hr h) h
         | some ib =>
           obtain ⟨i, b⟩ := ib
           simp only at h ⊢
           rw [← hr.at_ i]
           exact Xxg_le (fun x o h => pk (some d) x o t e hr h) h)
theorem ops_le : ∀ {l : List CO} {t : List AV} {e : Env} {o : Objs} {k : Env → Objs → Out} {k' : List AV → Objs → Out}, Rel N t e → (∀ t e o, Rel N t e → k e o = some r → k' t o = some r) → opsE N call G V l e o k = some r → opsK call G V l t o k' = some r
  | [], t, e, o, k, k', hr, hk, h => hk t e o hr h
  | c :: l, t, e, o, k, k', hr, hk, h => by
    simp only [opsE] at h
    simp only [opsK]
    exact op_le hr (fun t e o hr h => ops_le hr hk h) h
theorem Xd_le {acc : Objs} {lens : List (Key × Nat)} {h : Nat} {str : Bool} {sz : Sz} {b : Nat} {x y : AV} {k k' : AV → List (Key × Nat) → Out} {u : Tag k} {u' : Tag k'} (hk : ∀ x ls, k x ls = some r → k' x ls = some r) (hh : Xd acc lens h str sz b x y k u = some r) : Xd acc lens h str sz b x y k' u' = some r := by
  unfold Xd at hh ⊢
  cases hv : apdV acc lens h str sz b x y with
  | none => rw [hv] at hh; cases hh
  | some p => rw [hv] at hh; exact hk _ _ hh
theorem Xdg_le {g : AV} {b' : Bool} {acc : Objs} {lens : List (Key × Nat)} {h : Nat} {str : Bool} {sz : Sz} {b : Nat} {x y : AV} {k k' : AV → List (Key × Nat) → Out} {u : Tag k} {u' : Tag k'} (hk : ∀ x ls, k x ls = some r → k' x ls = some r) (hh : Xdg g b' acc lens h str sz b x y k u = some r) : Xdg g b' acc lens h str sz b x y k' u' = some r := by
  unfold Xdg at hh ⊢
  cases hw : wantsV b' g with
  | none => rw [hw] at hh; cases hh
  | some w =>
    rw [hw] at hh
    cases w with
    | true => exact Xd_le hk hh
    | false => exact hk _ _ hh
theorem pre_le {o : Objs} : ∀ {l : List CO} {t : List AV} {e : Env} {new : Objs} {seals : List Key} {lens : List (Key × Nat)} {k : Env → Objs → Out} {k' : List AV → Objs → Out}, Rel N t e → (∀ t e o, Rel N t e → k e o = some r → k' t o = some r) → preE N call G o l e new seals lens k = some r → preK call G o l t new seals lens k' = some r
  | [], t, e, new, seals, lens, k, k', hr, hk, h => hk t e _ hr h
  | c :: l, t, e, new, seals, lens, k, k', hr, hk, h => by
    simp only [preE] at h
    simp only [preK]
    cases hd : c.dst with
    | none => rw [hd] at h; cases h
    | some d =>
      rw [hd] at h
      simp only at h ⊢
      have pk : ∀ (x : AV) (new : Objs) (seals : List Key) (lens : List (Key × Nat)), putE N (some d) x e (fun e => preE N call G o l e new seals lens k) = some r → preK call G o l (t.set d x) new seals lens k' = some r := fun x new seals lens h => put_le (d := some d) (k' := fun t => preK call G o l t new seals lens k') hr (fun t e hr h => pre_le hr hk h) h
      generalize c.op = op at h ⊢
      cases op
      case apd h0 str sz bytes x y =>
        simp only [hr.ev] at h ⊢
        cases hg : c.guard with
        | none => rw [hg] at h; exact Xd_le (fun x ls h => pk x _ _ _ h) h
        | some ib =>
          obtain ⟨i, b⟩ := ib
          rw [hg] at h
          simp only at h ⊢
          rw [← hr.at_ i]
          exact Xdg_le (fun x ls h => pk x _ _ _ h) h
      all_goals
        simp only [isQ, isX, cond_true, cond_false, iB_t, iB_f] at h ⊢
        first
        | exact run_le hr (fun x h => pk x _ _ _ h) h
        | (cases h; done)
        | (simp only [hr.ev] at h
           cases hg : c.guard with
           | none => rw [hg] at h; exact Xp_le (fun x n s h => pk x _ _ _ h) h
           | some ib =>
             obtain ⟨i, b⟩ := ib
             rw [hg] at h
             simp only at h ⊢
             rw [← hr.at_ i]
             exact Xpg_le (fun x n s h => pk x _ _ _ h) h)
theorem mask_at {keep : List Nat} : ∀ (t : List AV) (j i : Nat), (maskT keep j t).getD i .undef = if keep.contains (j + i) = true then msk keep (t.getD i .undef) else .undef
  | [], j, i => by
    have : msk keep .undef = .undef := rfl
    simp only [maskT, List.getD_nil, this, ite_self]
  | x :: l, j, 0 => by
    simp only [maskT, List.getD_cons_zero, Nat.add_zero, msk]
    cases keep.contains j <;> simp
  | x :: l, j, i + 1 => by
    simp only [maskT, List.getD_cons_succ]
    rw [mask_at l (j + 1) i]
    congr 2
    congr 1
    omega
theorem maskT_length {keep : List Nat} : ∀ (t : List AV) (j : Nat), (maskT keep j t).length = t.length
  | [], _ => rfl
  | x :: l, j => by simp [maskT, maskT_length l]
theorem envOf_at (f : Nat → AV) : ∀ (keep : List Nat) (i : Nat), envOf keep (keep.map f) i = if keep.contains i = true then f i else .undef
  | [], i => rfl
  | j :: ks, i => by
    simp only [List.map_cons, envOf, List.contains_cons]
    by_cases hi : i = j
    · subst hi
      simp
    · have hb : Nat.beq i j = false := by
        cases hb : Nat.beq i j with
        | false => rfl
        | true => exact absurd (Nat.eq_of_beq_eq_true hb) hi
      have : (i == j) = false := by simpa using hi
      rw [hb, this, cond_false, Bool.false_or]
      exact envOf_at f ks i
theorem Rel.mask (h : Rel N t e) (keep : List Nat) : Rel N (maskT keep 0 t) (envOf keep (keep.map fun i => msk keep (e i))) := by
  refine ⟨by rw [maskT_length, h.len], fun i => ?_⟩
  rw [envOf_at, mask_at, Nat.zero_add, h.at_ i]
theorem rounds_le {keep : List Nat} {b : Env → Objs → KontE → Out} {b' : List AV → Objs → Kont → Out} (hb : ∀ (t : List AV) (e : Env) (o : Objs) (k : KontE) (k' : Kont), Rel N t e → (∀ ev t e o, Rel N t e → k ev e o = some r → k' ev t o = some r) → b e o k = some r → b' t o k' = some r) : ∀ (m : Nat) (t : List AV) (vs : List AV) (o : Objs) (k : KontE) (k' : Kont), Rel N t (envOf keep vs) → (∀ ev t e o, Rel N t e → k ev e o = some r → k' ev t o = some r) → roundsE keep b m vs o k = some r → roundsK keep b' m t o k' = some r
  | 0, _, _, _, _, _, _, _, h => by cases h
  | m + 1, t, vs, o, k, k', hr, hk, h => by
    simp only [roundsE] at h
    simp only [roundsK]
    refine hb t _ o _ _ hr (fun ev t e o hr h => ?_) h
    cases ev with
    | normal => exact rounds_le hb m _ _ _ k k' (hr.mask keep) hk h
    | exit i => exact hk _ _ _ _ hr h
    | ret => exact hk _ _ _ _ hr h
theorem den_le (n : Nat) : ∀ (c : CC) (t : List AV) (e : Env) (o : Objs) (k : KontE) (k' : Kont), Rel N t e → (∀ ev t e o, Rel N t e → k ev e o = some r → k' ev t o = some r) → denE N call G V n c e o k = some r → denK call G V n c t o k' = some r
  | .skip, t, e, o, k, k', hr, hk, h => hk _ _ _ _ hr h
  | .exit i, t, e, o, k, k', hr, hk, h => hk _ _ _ _ hr h
  | .ret, t, e, o, k, k', hr, hk, h => hk _ _ _ _ hr h
  | .bad, t, e, o, k, k', hr, hk, h => by cases h
  | .reg pre suf, t, e, o, k, k', hr, hk, h => by
    cases pre with
    | nil => exact ops_le hr (fun t e o hr h => hk _ _ _ _ hr h) h
    | cons c l => exact pre_le hr (fun t e o hr h => ops_le hr (fun t e o hr h => hk _ _ _ _ hr h) h) h
  | .seq a b, t, e, o, k, k', hr, hk, h => by
    simp only [denE] at h
    simp only [denK]
    refine den_le n a t e o _ _ hr (fun ev t e o hr h => ?_) h
    cases ev with
    | normal => exact den_le n b t e o k k' hr hk h
    | exit i => exact hk _ _ _ _ hr h
    | ret => exact hk _ _ _ _ hr h
  | .cond c a b, t, e, o, k, k', hr, hk, h => by
    simp only [denE, Xc, hr.ev] at h
    simp only [denK, Xc]
    split at h
    · rename_i v hv
      cases v with
      | true => exact den_le n a t e o k k' hr hk h
      | false => exact den_le n b t e o k k' hr hk h
    · cases h
  | .block id a, t, e, o, k, k', hr, hk, h => by
    simp only [denE] at h
    simp only [denK]
    refine den_le n a t e o _ _ hr (fun ev t e o hr h => ?_) h
    cases ev with
    | normal => exact hk _ _ _ _ hr h
    | ret => exact hk _ _ _ _ hr h
    | exit i =>
      simp only [eBlock] at h
      simp only [kBlock]
      have : (i == id) = Nat.beq i id := by rw [Bool.eq_iff_iff]; simp
      rw [this]
      cases hb : Nat.beq i id with
      | true => rw [hb] at h; exact hk _ _ _ _ hr h
      | false => rw [hb] at h; exact hk _ _ _ _ hr h
  | .loop keep a, t, e, o, k, k', hr, hk, h => by
    simp only [denE] at h
    simp only [denK]
    exact rounds_le (fun t e o k k' hr hk h => den_le n a t e o k k' hr hk h) n _ _ _ k k' (hr.mask keep) hk h
theorem denFE_eq {n : Nat} {f : CF} {args : List AV} (h : denFE call G V n f args = some r) : denFK call G V n f args = some r := by
  unfold denFE at h
  unfold denFK
  cases hl : Nat.ble args.length f.ntmps with
  | false => rw [hl] at h; cases h
  | true =>
    rw [hl] at h
    have hl : args.length ≤ f.ntmps := Nat.le_of_ble_eq_true hl
    refine den_le n f.code _ _ _ _ _ ⟨by simp; omega, fun i => ?_⟩ (fun ev t e o hr h => ?_) h
    · simp only [envA, List.getD_eq_getElem?_getD]
      by_cases hi : i < args.length
      · rw [List.getElem?_append_left hi]
      · rw [List.getElem?_append_right (by omega), List.getElem?_eq_none (by omega)]
        simp only [List.getElem?_replicate]
        split <;> rfl
    · have : f.res.map (resE e o) = f.res.map (resK t o) := by
        congr 1
        funext c
        cases c with
        | t i => simp only [resE, resK, hr.at_ i]
        | cell a ag m => simp only [resE, resK, hr.at_ a]
      cases ev with
      | exit i => cases h
      | normal => simp only [eEnd, this] at h; exact h
      | ret => simp only [eEnd, this] at h; exact h
theorem denBE_eq {n : Nat} {f : CF} {ls args : List AV} (h : denBE call G V n f ls args = some r) : denBK call G V n f ls args = some r := by
  unfold denBE at h
  unfold denBK
  cases hl : Nat.ble args.length f.ntmps with
  | false => rw [hl] at h; cases h
  | true =>
    rw [hl] at h
    have hl : args.length ≤ f.ntmps := Nat.le_of_ble_eq_true hl
    refine den_le n f.code _ _ _ _ _ ⟨by simp; omega, fun i => ?_⟩ (fun ev t e o hr h => ?_) h
    · simp only [envA, List.getD_eq_getElem?_getD]
      by_cases hi : i < args.length
      · rw [List.getElem?_append_left hi]
      · rw [List.getElem?_append_right (by omega), List.getElem?_eq_none (by omega)]
        simp only [List.getElem?_replicate]
        split <;> rfl
    · have : f.res.map (resE e o) = f.res.map (resK t o) := by
        congr 1
        funext c
        cases c with
        | t i => simp only [resE, resK, hr.at_ i]
        | cell a ag m => simp only [resE, resK, hr.at_ a]
      cases ev with
      | exit i => cases h
      | normal => simp only [eEndB, this] at h; exact h
      | ret => simp only [eEndB, this] at h; exact h
theorem D_runE {defs : FuncId → Option CF} {prims : Call} {f : FuncId} {args : List AV} {cf : CF} (n : Nat) (hp : prims f args = none) (hd : defs f = some cf) (hl : args.length = cf.nargs) (h : denFE (D defs prims G) G V n cf args = some r) (hh : headL args = false := by rfl) : D defs prims G f args = some r :=
  D_run hp hd hh (denFK_eq hl (denFE_eq h))
theorem D_runBE {defs : FuncId → Option CF} {prims : Call} {f : FuncId} {ls as : List AV} {cf : CF} (n : Nat) (hp : prims f (.tup ls :: as) = none) (hd : defs f = some cf) (hl : as.length = cf.nargs) (h : denBE (D defs prims G) G V n cf ls as = some r) : D defs prims G f (.tup ls :: as) = some r :=
  D_runB hp hd (denBK_eq hl (denBE_eq h))
end
def lookK : List (Nat × List Nat) → Nat → List Nat
  | [], _ => []
  | x :: l, p => iB (Nat.beq x.1 p) x.2 (lookK l p)
def setK (ks : List (Nat × List Nat)) : CC → Nat → CC
  | .seq a b, p => .seq (setK ks a (2 * p)) (setK ks b (2 * p + 1))
  | .cond c a b, p => .cond c (setK ks a (2 * p)) (setK ks b (2 * p + 1))
  | .block i a, p => .block i (setK ks a (2 * p))
  | .loop _ a, p => .loop (lookK ks p) (setK ks a (2 * p))
  | .skip, _ => .skip
  | .reg a b, _ => .reg a b
  | .exit i, _ => .exit i
  | .ret, _ => .ret
  | .bad, _ => .bad
theorem erase_setK (ks : List (Nat × List Nat)) : ∀ (c : CC) (p : Nat), eraseK (setK ks c p) = eraseK c := by
  intro c
  induction c with
  | seq a b ia ib => intro p; simp only [setK, eraseK, ia, ib]
  | cond c a b ia ib => intro p; simp only [setK, eraseK, ia, ib]
  | block i a ia => intro p; simp only [setK, eraseK, ia]
  | loop k a ia => intro p; simp only [setK, eraseK, ia]
  | _ => intro p; rfl
theorem erase_cReg {P : Program} {own : Nat → Bool} {ops : Array Oper} {draw : Bool} : eraseK ((cReg P own ops draw).getD .bad) = (cReg P own ops draw).getD .bad := by
  unfold cReg
  cases cOs P own ops ops.toList with
  | none => rfl
  | some l =>
    cases draw with
    | false => rfl
    | true =>
      simp only [Option.bind_some, cond_true]
      split <;> rfl
theorem erase_cC {P : Program} {own : Nat → Bool} : ∀ c : Code, eraseK (cC P own c) = cC P own c := by
  intro c
  induction c with
  | seq a b ia ib => simp only [cC, eraseK, ia, ib]
  | cond c a b ia ib => simp only [cC, eraseK, ia, ib]
  | block i a ia => simp only [cC, eraseK, ia]
  | loop a ia => simp only [cC, eraseK, ia]
  | region _ ops draw => simp only [cC]; exact erase_cReg
  | _ => rfl
def ofL (l : List Nat) (i : Nat) : Bool := l.contains i
def cbk (P : Program) (ow : List Nat) (fn : Func) : CC := match fn.body with
  | some b => cC P (ofL ow) b
  | none => .bad
def cck (P : Program) (ow : List Nat) (fn : Func) (ks : List (Nat × List Nat)) : CC := setK ks (cbk P ow fn) 1
theorem okK {P : Program} {f : FuncId} {fn : Func} {ow : List Nat} {ks : List (Nat × List Nat)} {na nt : Nat} {res : List CR} (hf : P.funcs[f]? = some fn) (hn : (fn.name == "runtime.NumGoroutine") = false)
    (hc : cF P (ofL ow) fn = some ⟨na, nt, cbk P ow fn, res⟩) : ∃ fn' ow', P.funcs[f]? = some fn' ∧ (fn'.name == "runtime.NumGoroutine") = false ∧ cF P ow' fn' = some { (⟨na, nt, cck P ow fn ks, res⟩ : CF) with code := eraseK (⟨na, nt, cck P ow fn ks, res⟩ : CF).code } := by
  refine ⟨fn, ofL ow, hf, hn, ?_⟩
  rw [hc]
  have : eraseK (cck P ow fn ks) = cbk P ow fn := by
    unfold cck
    rw [erase_setK]
    unfold cbk
    split
    · exact erase_cC _
    · rfl
  simp only [this]
end Go.Proofs.YtmhdapjmndfkgaaGreatDoor.Eng
namespace Go.Proofs.YtmhdapjmndfkgaaGreatDoor.Eng.V
open Go Go.Proofs.YtmhdapjmndfkgaaGreatDoor.Eng
def bindK {α : Type} (m : Option α) (k : α → Out) (_ : Tag k) : Out := match m with
  | some x => k x
  | none => none
def ifK (b : Bool) (a : Unit → Out) (_ : Tag a) : Out := bif b then a () else none
def newK (o new : Objs) (seals : List Key) (x : AV) (k : AV → Objs → Out) (_ : Tag k) : Out := bif freshO o new then k x (finO o new seals) else none
def newP (d : Nat) (o new : Objs) (seals : List Key) (x : AV) (k : AV → Objs → List Key → Out) (_ : Tag k) : Out := bif freshO o new && new.all (fun p => p.1.1 == d) then k x new seals else none
def Xi (es : List (List AV)) (i : Int) (k : List AV → Out) (_ : Tag k) : Out := if 0 ≤ i then (match es[i.toNat]? with | some e => k e | none => none) else none
def capK (o : Objs) (l : List CX) : Option (List AV × List Key) := capsOf noG [] (getO o) l
def varO (o : Objs) (q : Key) : Option (List AV) := match getO o q with
  | some (.var cs _) => some cs
  | _ => none
def loV (n : Nat) : Option CX → Option Nat
  | none => some 0
  | some (.c a) => bnd n (some a)
  | _ => none
def hiV (n : Nat) : Option CX → Option Nat
  | none => some n
  | some (.c a) => bnd n (some a)
  | _ => none
def slcV (es : List (List AV)) (lo hi : Option CX) : Option (List (List AV)) := (hiV es.length hi).bind fun h => (loV h lo).bind fun l => some ((es.take h).drop l)
def slsV (s : ByteArray) (lo hi : Option CX) : Option ByteArray := (hiV s.size hi).bind fun h => (loV h lo).bind fun l => some (s.extract l h)
theorem toList_inj {a b : ByteArray} : a.toList = b.toList ↔ a = b := by
  constructor
  · intro h
    have ha : a.toList = a.data.toList := ByteArray.toList_eq _
    have hb : b.toList = b.data.toList := ByteArray.toList_eq _
    rw [ha, hb] at h
    cases a; cases b
    simp only [ByteArray.mk.injEq]
    exact Array.toList_inj.1 h
  · rintro rfl; rfl
theorem eqS {a b : ByteArray} : (a.toList == b.toList) = decide (a = b) := by
  rw [Bool.eq_iff_iff]; simp [toList_inj]
section
variable {call : Call} {o : Objs} {d : Nat} {k : AV → Out} {u : Tag k} {ko : AV → Objs → Out} {uo : Tag ko} {kp : AV → Objs → List Key → Out} {up : Tag kp} {α : Type} {ka : α → Out} {ua : Tag ka}
theorem bindK_some {x : α} : bindK (some x) ka ua = ka x := rfl
theorem bindK_none : bindK (none : Option α) ka ua = none := rfl
theorem ifK_t {a : Unit → Out} {v : Tag a} : ifK true a v = a () := rfl
theorem ifK_f {a : Unit → Out} {v : Tag a} : ifK false a v = none := rfl
theorem Xc_t {a b : Unit → Out} {v : Tag a} {w : Tag b} : Xc (.v (.bool true)) a b v w = a () := rfl
theorem Xc_f {a b : Unit → Out} {v : Tag a} {w : Tag b} : Xc (.v (.bool false)) a b v w = b () := rfl
theorem Xgq_t {op : COp} : Xgq (.v (.bool true)) true op k u = Xq op k u := rfl
theorem Xgq_f {op : COp} : Xgq (.v (.bool false)) true op k u = k (.tup []) := rfl
theorem Xgq_t' {op : COp} : Xgq (.v (.bool false)) false op k u = Xq op k u := rfl
theorem Xgq_f' {op : COp} : Xgq (.v (.bool true)) false op k u = k (.tup []) := rfl
theorem Xgq_n {b : Bool} {op : COp} : Xgq (.tup []) b op k u = k (.tup []) := rfl
theorem Xxg_t {op : COp} : Xxg call (.v (.bool true)) true o d op ko uo = Xx call o d op ko uo := rfl
theorem Xxg_f {op : COp} : Xxg call (.v (.bool false)) true o d op ko uo = ko (.tup []) o := rfl
theorem Xxg_t' {op : COp} : Xxg call (.v (.bool false)) false o d op ko uo = Xx call o d op ko uo := rfl
theorem Xxg_f' {op : COp} : Xxg call (.v (.bool true)) false o d op ko uo = ko (.tup []) o := rfl
theorem Xxg_n {b : Bool} {op : COp} : Xxg call (.tup []) b o d op ko uo = ko (.tup []) o := rfl
theorem Xpg_t {op : COp} : Xpg call (.v (.bool true)) true o d op kp up = Xp call o d op kp up := rfl
theorem Xpg_f {op : COp} : Xpg call (.v (.bool false)) true o d op kp up = kp (.tup []) [] [] := rfl
theorem Xpg_t' {op : COp} : Xpg call (.v (.bool false)) false o d op kp up = Xp call o d op kp up := rfl
theorem Xpg_f' {op : COp} : Xpg call (.v (.bool true)) false o d op kp up = kp (.tup []) [] [] := rfl
theorem Xpg_n {b : Bool} {op : COp} : Xpg call (.tup []) b o d op kp up = kp (.tup []) [] [] := rfl
theorem q_mv {x : AV} : Xq (.mv (.c x)) k u = k x := rfl
theorem q_pick_t {a b : AV} : Xq (.pick (.c (.v (.bool true))) (.c a) (.c b)) k u = k a := by
  have h : qv (.pick (.c (.v (.bool true))) (.c a) (.c b)) = some a := by
    simp only [qv, denX, ev]
    split <;> rfl
  simp only [Xq, h]
theorem q_pick_f {a b : AV} : Xq (.pick (.c (.v (.bool false))) (.c a) (.c b)) k u = k b := by
  have h : qv (.pick (.c (.v (.bool false))) (.c a) (.c b)) = some b := by
    simp only [qv, denX, ev]
    split <;> rfl
  simp only [Xq, h]
theorem q_pick_b {c x y : Bool} : Xq (.pick (.c (.v (.bool c))) (.c (.v (.bool x))) (.c (.v (.bool y)))) k u = k (.v (.bool (bif c then x else y))) := rfl
theorem q_build {z : List AV} {ps : List (Nat × Nat × CX)} : Xq (.build z ps) k u = bindK (fill z (ps.map fun p => (p.1, p.2.1, ev [] noG p.2.2))) (fun cs => k (.agg cs)) () := by
  simp only [Xq, qv, denX, bindK]
  cases fill z _ <;> rfl
theorem q_nck_p {q : Key} {f : Nat} : Xq (.nck (.c (.ptr q f))) k u = k (.ptr q f) := rfl
theorem q_nck_e {q : Key} {i f : Nat} {cs : List AV} : Xq (.nck (.c (.eptr q i f cs))) k u = k (.eptr q i f cs) := rfl
theorem q_nck_f {cs : List AV} : Xq (.nck (.c (.fptr cs))) k u = k (.fptr cs) := rfl
theorem q_nck_fn {f : FuncId} {cs : List AV} : Xq (.nck (.c (.fn f cs))) k u = k (.fn f cs) := rfl
section
variable {kd kd' : IntKind} {a b : Int}
theorem q_add : Xq (.bin .add (.c (.v (.int kd a))) (.c (.v (.int kd b)))) k u = k (.v (.int kd (kd.wrap (a + b)))) := by simp [Xq, qv, denX, binV, ev]
theorem q_sub : Xq (.bin .sub (.c (.v (.int kd a))) (.c (.v (.int kd b)))) k u = k (.v (.int kd (kd.wrap (a - b)))) := by simp [Xq, qv, denX, binV, ev]
theorem q_mul : Xq (.bin .mul (.c (.v (.int kd a))) (.c (.v (.int kd b)))) k u = k (.v (.int kd (kd.wrap (a * b)))) := by simp [Xq, qv, denX, binV, ev]
theorem q_quo : Xq (.bin .quo (.c (.v (.int kd a))) (.c (.v (.int kd b)))) k u = bindK (if b = 0 then none else some (kd.wrap (a.tdiv b))) (fun x => k (.v (.int kd x))) () := by
  simp only [Xq, qv, denX, binV, ev, bindK, if_true]
  by_cases h : b = 0 <;> simp [h]
theorem q_rem : Xq (.bin .rem (.c (.v (.int kd a))) (.c (.v (.int kd b)))) k u = bindK (if b = 0 then none else some (a.tmod b)) (fun x => k (.v (.int kd x))) () := by
  simp only [Xq, qv, denX, binV, ev, bindK, if_true]
  by_cases h : b = 0 <;> simp [h]
theorem q_eql : Xq (.bin .eql (.c (.v (.int kd a))) (.c (.v (.int kd b)))) k u = k (.v (.bool (decide (a = b)))) := by simp [Xq, qv, denX, binV, ev]; rfl
theorem q_neq : Xq (.bin .neq (.c (.v (.int kd a))) (.c (.v (.int kd b)))) k u = k (.v (.bool (!decide (a = b)))) := by simp [Xq, qv, denX, binV, ev]; rfl
theorem q_lss : Xq (.bin .lss (.c (.v (.int kd a))) (.c (.v (.int kd b)))) k u = k (.v (.bool (decide (a < b)))) := by simp [Xq, qv, denX, binV, ev]
theorem q_leq : Xq (.bin .leq (.c (.v (.int kd a))) (.c (.v (.int kd b)))) k u = k (.v (.bool (decide (a ≤ b)))) := by simp [Xq, qv, denX, binV, ev]
theorem q_gtr : Xq (.bin .gtr (.c (.v (.int kd a))) (.c (.v (.int kd b)))) k u = k (.v (.bool (decide (b < a)))) := by simp [Xq, qv, denX, binV, ev]
theorem q_geq : Xq (.bin .geq (.c (.v (.int kd a))) (.c (.v (.int kd b)))) k u = k (.v (.bool (decide (b ≤ a)))) := by simp [Xq, qv, denX, binV, ev]
theorem q_and : Xq (.bin .and (.c (.v (.int kd a))) (.c (.v (.int kd b)))) k u = k (.v (.int kd (kd.wrap (BitVec.ofInt kd.bits a &&& BitVec.ofInt kd.bits b).toNat))) := by simp [Xq, qv, denX, binV, ev]
theorem q_or : Xq (.bin .or (.c (.v (.int kd a))) (.c (.v (.int kd b)))) k u = k (.v (.int kd (kd.wrap (BitVec.ofInt kd.bits a ||| BitVec.ofInt kd.bits b).toNat))) := by simp [Xq, qv, denX, binV, ev]
theorem q_xor : Xq (.bin .xor (.c (.v (.int kd a))) (.c (.v (.int kd b)))) k u = k (.v (.int kd (kd.wrap (BitVec.ofInt kd.bits a ^^^ BitVec.ofInt kd.bits b).toNat))) := by simp [Xq, qv, denX, binV, ev]
theorem q_shl : Xq (.bin .shl (.c (.v (.int kd a))) (.c (.v (.int kd' b)))) k u = bindK (if b < 0 then none else some (kd.wrap (a * 2 ^ (min b.toNat kd.bits)))) (fun x => k (.v (.int kd x))) () := by
  simp only [Xq, qv, denX, binV, ev, bindK]
  by_cases h : kd = kd' <;> by_cases h2 : b < 0 <;> simp [h, h2]
theorem q_shr : Xq (.bin .shr (.c (.v (.int kd a))) (.c (.v (.int kd' b)))) k u = bindK (if b < 0 then none else some (a.fdiv (2 ^ (min b.toNat kd.bits)))) (fun x => k (.v (.int kd x))) () := by
  simp only [Xq, qv, denX, binV, ev, bindK]
  by_cases h : kd = kd' <;> by_cases h2 : b < 0 <;> simp [h, h2]
theorem q_neg : Xq (.neg (.c (.v (.int kd a)))) k u = k (.v (.int kd (kd.wrap (-a)))) := by rw [← Int.zero_sub]; rfl
theorem q_cvi : Xq (.cvi kd (.c (.v (.int kd' a)))) k u = k (.v (.int kd (kd.wrap a))) := rfl
theorem q_b2s_f {es : List (List AV)} : Xq (.b2s (.c (.fsl es))) k u = bindK (numsOf es) (fun ns => k (.v (.string ⟨(ns.map fun n => UInt8.ofNat n.toNat).toArray⟩))) () := by
  simp only [Xq, qv, denX, ev, elemsOf, Option.bind_some, bindK]
  cases numsOf es <;> rfl
theorem q_b2s_a {q : Key} {es : List (List AV)} : Xq (.b2s (.c (.asl q es))) k u = bindK (numsOf es) (fun ns => k (.v (.string ⟨(ns.map fun n => UInt8.ofNat n.toNat).toArray⟩))) () := by
  simp only [Xq, qv, denX, ev, elemsOf, Option.bind_some, bindK]
  cases numsOf es <;> rfl
theorem q_max : Xq (.mm true (.c (.v (.int kd a))) (.c (.v (.int kd b)))) k u = k (.v (.int kd (if b > a then b else a))) := by simp [Xq, qv, denX, mmV, ev]
theorem q_min : Xq (.mm false (.c (.v (.int kd a))) (.c (.v (.int kd b)))) k u = k (.v (.int kd (if b < a then b else a))) := by simp [Xq, qv, denX, mmV, ev]
end
theorem q_sadd {a b : ByteArray} : Xq (.bin .add (.c (.v (.string a))) (.c (.v (.string b)))) k u = ifK (decide (a.size + b.size ≤ 9223372036854775807)) (fun _ => k (.v (.string (a ++ b)))) () := by
  simp only [Xq, qv, denX, binV, ev, ifK]
  by_cases h : a.size + b.size ≤ 9223372036854775807 <;> simp [h]
theorem q_seql {a b : ByteArray} : Xq (.bin .eql (.c (.v (.string a))) (.c (.v (.string b)))) k u = k (.v (.bool (decide (a = b)))) := by simp only [Xq, qv, denX, binV, ev, eqS]; rfl
theorem q_sneq {a b : ByteArray} : Xq (.bin .neq (.c (.v (.string a))) (.c (.v (.string b)))) k u = k (.v (.bool (!decide (a = b)))) := by simp only [Xq, qv, denX, binV, ev, eqS]; rfl
theorem q_slss {a b : ByteArray} : Xq (.bin .lss (.c (.v (.string a))) (.c (.v (.string b)))) k u = k (.v (.bool (Op.bytesLess a.toList b.toList))) := rfl
theorem q_sleq {a b : ByteArray} : Xq (.bin .leq (.c (.v (.string a))) (.c (.v (.string b)))) k u = k (.v (.bool (Op.bytesLess a.toList b.toList || decide (a = b)))) := by simp only [Xq, qv, denX, binV, ev, eqS]; rfl
theorem q_sgtr {a b : ByteArray} : Xq (.bin .gtr (.c (.v (.string a))) (.c (.v (.string b)))) k u = k (.v (.bool !(Op.bytesLess a.toList b.toList || decide (a = b)))) := by simp only [Xq, qv, denX, binV, ev, eqS]; rfl
theorem q_sgeq {a b : ByteArray} : Xq (.bin .geq (.c (.v (.string a))) (.c (.v (.string b)))) k u = k (.v (.bool !(Op.bytesLess a.toList b.toList))) := rfl
theorem q_eqb {a b : Bool} : Xq (.eqb false (.c (.v (.bool a))) (.c (.v (.bool b)))) k u = k (.v (.bool (a == b))) := by cases a <;> cases b <;> rfl
theorem q_neb {a b : Bool} : Xq (.eqb true (.c (.v (.bool a))) (.c (.v (.bool b)))) k u = k (.v (.bool !(a == b))) := by cases a <;> cases b <;> rfl
theorem q_eqs {ks : List Nat} {a b : List AV} : Xq (.eqs false ks (.c (.agg a)) (.c (.agg b))) k u = bindK (eqCells ks a b) (fun e => k (.v (.bool e))) () := by
  simp only [Xq, qv, denX, ev, bindK]
  cases eqCells ks a b with
  | none => rfl
  | some e => cases e <;> rfl
theorem q_nes {ks : List Nat} {a b : List AV} : Xq (.eqs true ks (.c (.agg a)) (.c (.agg b))) k u = bindK (eqCells ks a b) (fun e => k (.v (.bool !e))) () := by
  simp only [Xq, qv, denX, ev, bindK]
  cases eqCells ks a b with
  | none => rfl
  | some e => cases e <;> rfl
theorem q_not {b : Bool} : Xq (.not (.c (.v (.bool b)))) k u = k (.v (.bool !b)) := rfl
theorem q_fad_p {q : Key} {f off : Nat} : Xq (.fad (.c (.ptr q f)) off) k u = k (.ptr q (f + off)) := rfl
theorem q_fad_f {cs : List AV} {off : Nat} : Xq (.fad (.c (.fptr cs)) off) k u = k (.fptr (cs.drop off)) := rfl
theorem q_fad_e {q : Key} {i f off : Nat} {cs : List AV} : Xq (.fad (.c (.eptr q i f cs)) off) k u = ifK (decide (off ≤ cs.length)) (fun _ => k (.eptr q i (f + off) (cs.drop off))) () := by
  simp only [Xq, qv, denX, ev, ifK]
  by_cases h : off ≤ cs.length <;> simp [h]
theorem q_fld {cs : List AV} {off n : Nat} {g : Bool} : Xq (.fld (.c (.agg cs)) off n g) k u = bindK (pack g n (cs.drop off)) k () := by
  simp only [Xq, qv, denX, ev, bindK]
  cases pack g n (cs.drop off) <;> rfl
theorem q_ias_f {sz : Nat} {es : List (List AV)} {kd : IntKind} {i : Int} : Xq (.ias sz (.c (.fsl es)) (.c (.v (.int kd i)))) k u = Xi es i (fun e => ifK (decide (e.length = sz)) (fun _ => k (.fptr e)) ()) () := by
  simp only [Xq, qv, denX, ev, Xi, ifK]
  by_cases h : 0 ≤ i
  · simp only [if_pos h]
    cases es[i.toNat]? with
    | none => rfl
    | some e => by_cases h2 : e.length = sz <;> simp [h2]
  · simp [h]
theorem q_ias_a {sz : Nat} {q : Key} {es : List (List AV)} {kd : IntKind} {i : Int} : Xq (.ias sz (.c (.asl q es)) (.c (.v (.int kd i)))) k u = Xi es i (fun e => ifK (decide (e.length = sz)) (fun _ => k (.eptr q i.toNat 0 e)) ()) () := by
  simp only [Xq, qv, denX, ev, Xi, ifK]
  by_cases h : 0 ≤ i
  · simp only [if_pos h]
    cases es[i.toNat]? with
    | none => rfl
    | some e => by_cases h2 : e.length = sz <;> simp [h2]
  · simp [h]
theorem q_iaa_p {len sz : Nat} {q : Key} {f : Nat} {kd : IntKind} {i : Int} : Xq (.iaa len sz (.c (.ptr q f)) (.c (.v (.int kd i)))) k u = ifK (decide (0 ≤ i ∧ i < (len : Int))) (fun _ => k (.ptr q (f + i.toNat * sz))) () := by
  simp only [Xq, qv, denX, ev, ifK]
  by_cases h : 0 ≤ i ∧ i < (len : Int) <;> simp [h]
theorem q_iaa_f {len sz : Nat} {cs : List AV} {kd : IntKind} {i : Int} : Xq (.iaa len sz (.c (.fptr cs)) (.c (.v (.int kd i)))) k u = ifK (decide (0 ≤ i ∧ i < (len : Int))) (fun _ => k (.fptr (cs.drop (i.toNat * sz)))) () := by
  simp only [Xq, qv, denX, ev, ifK]
  by_cases h : 0 ≤ i ∧ i < (len : Int) <;> simp [h]
theorem q_ixs {s : ByteArray} {kd : IntKind} {i : Int} : Xq (.ixs (.c (.v (.string s))) (.c (.v (.int kd i)))) k u = bindK (if 0 ≤ i then s[i.toNat]? else none) (fun b => k (.v (.int .u8 (b.toNat : Int)))) () := by
  simp only [Xq, qv, denX, ev, bindK]
  by_cases h : 0 ≤ i
  · simp only [if_pos h]
    cases s[i.toNat]? <;> rfl
  · simp [h]
theorem q_ixa {len n : Nat} {g : Bool} {cs : List AV} {kd : IntKind} {i : Int} : Xq (.ixa len n g (.c (.agg cs)) (.c (.v (.int kd i)))) k u = ifK (decide (0 ≤ i ∧ i < (len : Int))) (fun _ => bindK (pack g n (cs.drop (i.toNat * n))) k ()) () := by
  simp only [Xq, qv, denX, ev, ifK, bindK]
  by_cases h : 0 ≤ i ∧ i < (len : Int)
  · simp only [if_pos h, decide_eq_true h, cond_true]
    cases pack g n (cs.drop (i.toNat * n)) <;> rfl
  · simp [h]
theorem loV_eq {n : Nat} {lo : Option CX} (h : ∀ x, lo = some x → ∃ a, x = .c a) : loV n lo = (match lo with | none => some 0 | some l => bnd n (some (ev [] noG l))) := by
  cases lo with
  | none => rfl
  | some x => obtain ⟨a, rfl⟩ := h x rfl; rfl
theorem hiV_eq {n : Nat} {lo : Option CX} (h : ∀ x, lo = some x → ∃ a, x = .c a) : hiV n lo = (match lo with | none => some n | some l => bnd n (some (ev [] noG l))) := by
  cases lo with
  | none => rfl
  | some x => obtain ⟨a, rfl⟩ := h x rfl; rfl
theorem q_sls0 {s : ByteArray} : Xq (.sls (.c (.v (.string s))) none none) k u = k (.v (.string (s.extract 0 s.size))) := rfl
theorem q_sls1 {s : ByteArray} {a : AV} : Xq (.sls (.c (.v (.string s))) (some (.c a)) none) k u = bindK (slsV s (some (.c a)) none) (fun x => k (.v (.string x))) () := by
  simp only [Xq, qv, denX, ev, slsV, hiV, loV, bindK, Option.bind_some]
  cases bnd s.size (some a) <;> rfl
theorem q_sls2 {s : ByteArray} {b : AV} : Xq (.sls (.c (.v (.string s))) none (some (.c b))) k u = bindK (slsV s none (some (.c b))) (fun x => k (.v (.string x))) () := by
  simp only [Xq, qv, denX, ev, slsV, hiV, loV, bindK]
  cases bnd s.size (some b) <;> rfl
theorem q_sls3 {s : ByteArray} {a b : AV} : Xq (.sls (.c (.v (.string s))) (some (.c a)) (some (.c b))) k u = bindK (slsV s (some (.c a)) (some (.c b))) (fun x => k (.v (.string x))) () := by
  simp only [Xq, qv, denX, ev, slsV, hiV, loV, bindK]
  cases bnd s.size (some b) with
  | none => rfl
  | some h => cases hb : bnd h (some a) <;> simp [hb]
theorem q_ext {vs : List AV} {i : Nat} : Xq (.ext (.c (.tup vs)) i) k u = bindK (vs[i]?) k () := by
  simp only [Xq, qv, denX, ev, bindK]
  cases vs[i]? <;> rfl
theorem q_len_s {s : ByteArray} : Xq (.len true (.c (.v (.string s)))) k u = k (.v (.int .i64 s.size)) := rfl
theorem q_len_f {es : List (List AV)} : Xq (.len false (.c (.fsl es))) k u = k (.v (.int .i64 es.length)) := rfl
theorem q_len_a {q : Key} {es : List (List AV)} : Xq (.len false (.c (.asl q es))) k u = k (.v (.int .i64 es.length)) := rfl
theorem q_len_n : Xq (.len false (.c .nilsl)) k u = k (.v (.int .i64 0)) := rfl
theorem q_tas_y {t : TypeId} {x z : AV} : Xq (.tas (.c (.iface t x)) t false z) k u = k x := by simp [Xq, qv, denX, ev]
theorem q_tas_ok {t : TypeId} {x z : AV} : Xq (.tas (.c (.iface t x)) t true z) k u = k (.tup [x, .v (.bool true)]) := by simp [Xq, qv, denX, ev]
theorem q_tas_no {t t' : TypeId} {x z : AV} (h : t ≠ t') : Xq (.tas (.c (.iface t x)) t' true z) k u = k (.tup [z, .v (.bool false)]) := by simp [Xq, qv, denX, ev, h]
theorem q_tas_nil {t' : TypeId} {z : AV} : Xq (.tas (.c (.v .nilIface)) t' true z) k u = k (.tup [z, .v (.bool false)]) := rfl
theorem q_eqn_f0 {ng : Bool} {e : List AV} {es : List (List AV)} : Xq (.eqn 0 ng (.c (.fsl (e :: es)))) k u = k (.v (.bool ng)) := by cases ng <;> rfl
theorem q_eqn_fn {ng : Bool} {f : FuncId} {cs : List AV} : Xq (.eqn 1 ng (.c (.fn f cs))) k u = k (.v (.bool ng)) := by cases ng <;> rfl
theorem q_eqn_pn {ng : Bool} : Xq (.eqn 2 ng (.c (.v (.pointer none)))) k u = k (.v (.bool (!ng))) := by cases ng <;> rfl
theorem q_eqn_pb {ng : Bool} {T : TypeId} : Xq (.eqn 2 ng (.c (.bnil T))) k u = k (.v (.bool (!ng))) := by cases ng <;> rfl
theorem q_eqn_pp {ng : Bool} {q : Key} {f : Nat} : Xq (.eqn 2 ng (.c (.ptr q f))) k u = k (.v (.bool ng)) := by cases ng <;> rfl
theorem q_eqp {ng : Bool} {q : Key} {f : Nat} : Xq (.eqp ng (.c (.ptr q f)) (.c (.ptr q f))) k u = k (.v (.bool (!ng))) := by cases ng <;> simp [Xq, qv, denX, ev]
theorem x_cvu {ts : List TypeId} {q : Key} : Xx call o d (.cvu ts (.c (.ptr q 0))) ko uo = bindK (varO o q) (fun cs => match cs with | [.bnil T, _] => bif ts.contains T then ko (.ptr q 0) o else none | _ => none) () := by
  simp only [Xx, denX, ev, bindK, varO]
  cases getO o q with
  | none => rfl
  | some b =>
    cases b with
    | var cs s =>
      match cs with
      | [] => rfl
      | [c] => cases c <;> rfl
      | [c, c'] => cases c with
        | bnil T => cases hc : ts.contains T <;> simp only [hc, if_true, cond_true, cond_false, Bool.false_eq_true, if_false] <;> rfl
        | _ => rfl
      | c :: c' :: c'' :: l => cases c <;> rfl
    | _ => rfl
theorem fin_nil : finO o [] [] = o := rfl
theorem x_ld_f {g : Bool} {n : Nat} {cs : List AV} : Xx call o d (.ld g n (.c (.fptr cs))) ko uo = bindK (pack g n cs) (fun x => ko x o) () := by
  simp only [Xx, denX, ev, bindK]
  cases pack g n cs <;> rfl
theorem x_ld_e {g : Bool} {n : Nat} {q : Key} {i f : Nat} {cs : List AV} : Xx call o d (.ld g n (.c (.eptr q i f cs))) ko uo = bindK (pack g n cs) (fun x => ko x o) () := by
  simp only [Xx, denX, ev, bindK]
  cases pack g n cs <;> rfl
theorem x_ld_p {g : Bool} {n : Nat} {q : Key} {f : Nat} : Xx call o d (.ld g n (.c (.ptr q f))) ko uo = bindK (varO o q) (fun cs => bindK (pack g n (cs.drop f)) (fun x => ko x o) ()) () := by
  simp only [Xx, denX, ev, bindK, varO]
  cases getO o q with
  | none => rfl
  | some b =>
    cases b <;> try rfl
    rename_i cs s
    simp only
    cases pack g n (cs.drop f) <;> rfl
theorem x_nil {sz : Sz} : Xx call o d (.nil sz) ko uo = newK o [((d, countO d o), .tail 0 sz false false)] [] (.asl (d, countO d o) []) ko () := rfl
theorem x_alloc {z : List AV} {sz : List Sz} : Xx call o d (.alloc z sz) ko uo = newK o (((d, countO d o), .var (adopt d (countO d o + 1) z sz).1 false) :: (adopt d (countO d o + 1) z sz).2) [] (.ptr (d, countO d o) 0) ko () := rfl
theorem x_box {n : Nat} {sz : List Sz} {x : AV} : Xx call o d (.box n sz (.c x)) ko uo = ifK (decide ((cellsOf x).length = n) && solid x) (fun _ => newK o (((d, countO d o), .var (adopt d (countO d o + 1) (cellsOf x) sz).1 false) :: (adopt d (countO d o + 1) (cellsOf x) sz).2) [] (.ptr (d, countO d o) 0) ko ()) () := by
  have e : denX call noG [] (getO o) d (countO d o) (.box n sz (.c x)) = if (cellsOf x).length = n ∧ solid x = true then some { x := .ptr (d, countO d o) 0, new := ((d, countO d o), .var (adopt d (countO d o + 1) (cellsOf x) sz).1 false) :: (adopt d (countO d o + 1) (cellsOf x) sz).2 } else none := rfl
  unfold Xx ifK
  rw [e]
  by_cases h : (cellsOf x).length = n ∧ solid x = true
  · rw [if_pos h]
    have : (decide ((cellsOf x).length = n) && solid x) = true := by simpa using h
    rw [this]
    rfl
  · rw [if_neg h]
    have : (decide ((cellsOf x).length = n) && solid x) = false := by
      cases hs : solid x
      · simp
      · simp [hs] at h; simp [h]
    rw [this]
    rfl
theorem x_bsl {n : Nat} {sz : Sz} {z : List AV} {ps : List (Nat × CX)} : Xx call o d (.bsl n sz z ps) ko uo = bindK ((fzParts [] noG ps).bind fun q => (fillE sz (List.replicate n z) q.1).map fun es => (es, q.2)) (fun p => newK o [((d, countO d o), .tail n sz true false)] p.2 (.asl (d, countO d o) p.1) ko ()) () := by
  simp only [Xx, denX, bindK]
  cases fzParts [] noG ps with
  | none => rfl
  | some q =>
    simp only [Option.bind_some]
    cases fillE sz (List.replicate n z) q.1 <;> rfl
theorem x_mks {sz : Sz} {b : Nat} {z : List AV} {n c : Int} : Xx call o d (.mks sz b z (.c (.v (.int .i64 n))) (.c (.v (.int .i64 c)))) ko uo = ifK (decide (n = c ∧ 0 ≤ n ∧ b * n ≤ 70368744177664)) (fun _ => newK o [((d, countO d o), .tail n.toNat sz true false)] [] (.asl (d, countO d o) (List.replicate n.toNat z)) ko ()) () := by
  simp only [Xx, denX, ev, ifK]
  by_cases h : n = c ∧ 0 ≤ n ∧ (b : Int) * n ≤ 70368744177664
  · simp only [if_pos h, decide_eq_true h]
    rfl
  · simp only [if_neg h, decide_eq_false h]
    rfl
theorem x_mki {t : TypeId} {x : AV} : Xx call o d (.mki t (.c x)) ko uo = bindK (frz x) (fun y => newK o [] (keys x) (.iface t y) ko ()) () := by
  simp only [Xx, denX, ev, bindK]
  cases frz x <;> rfl
theorem x_mkf {f : FuncId} {l : List CX} : Xx call o d (.mkf f l) ko uo = bindK (capK o l) (fun q => newK o [] q.2 (.fn f q.1) ko ()) () := by
  simp only [Xx, denX, bindK, capK]
  cases capsOf noG [] (getO o) l <;> rfl
theorem x_call {ow : Bool} {f : FuncId} {l : List CX} : Xx call o d (.call ow f l) ko uo = bindK (argsOf [] noG l) (fun q => bindK (call f q.1) (fun r => newK o (imp ow d (countO d o) r).2 q.2 (imp ow d (countO d o) r).1 ko ()) ()) () := by
  simp only [Xx, denX, bindK]
  cases argsOf [] noG l with
  | none => rfl
  | some q =>
    simp only [Option.bind_some]
    cases call f q.1 <;> rfl
theorem x_cal {ow : Bool} {f : FuncId} {caps : List AV} {l : List CX} : Xx call o d (.cal ow (.c (.fn f caps)) l) ko uo = bindK (argsOf [] noG l) (fun q => bindK (call f (q.1 ++ caps)) (fun r => newK o (imp ow d (countO d o) r).2 q.2 (imp ow d (countO d o) r).1 ko ()) ()) () := by
  simp only [Xx, denX, ev, bindK]
  cases argsOf [] noG l with
  | none => rfl
  | some q =>
    simp only [Option.bind_some]
    cases call f (q.1 ++ caps) <;> rfl
theorem slc_of {sz : Nat} {x : AV} {lo hi : Option CX} {g : Key → Option Ob} {j : Nat} (hlo : ∀ x, lo = some x → ∃ a, x = .c a) (hhi : ∀ x, hi = some x → ∃ a, x = .c a) : denX call noG [] g d j (.slc sz (.c x) lo hi) = (elemsOf x).bind fun es => bif lenOk sz es then (slcV es lo hi).map fun r => { x := .fsl r, seals := keys1 x } else none := by
  cases hi with
  | none =>
    cases lo with
    | none =>
      simp only [denX, ev, slcV, hiV, loV]
      cases elemsOf x with
      | none => rfl
      | some es => cases hl : lenOk sz es <;> simp [hl]
    | some l =>
      obtain ⟨a, rfl⟩ := hlo _ rfl
      simp only [denX, ev, slcV, hiV, loV]
      cases elemsOf x with
      | none => rfl
      | some es => cases hl : lenOk sz es <;> simp only [hl, Option.bind_some, if_true, cond_true, cond_false, Bool.false_eq_true, if_false]; cases bnd es.length (some a) <;> rfl
  | some l =>
    obtain ⟨b, rfl⟩ := hhi _ rfl
    cases lo with
    | none =>
      simp only [denX, ev, slcV, hiV, loV]
      cases elemsOf x with
      | none => rfl
      | some es => cases hl : lenOk sz es <;> simp only [hl, Option.bind_some, if_true, cond_true, cond_false, Bool.false_eq_true, if_false]; cases bnd es.length (some b) <;> rfl
    | some l =>
      obtain ⟨a, rfl⟩ := hlo _ rfl
      simp only [denX, ev, slcV, hiV, loV]
      cases elemsOf x with
      | none => rfl
      | some es =>
        cases hl : lenOk sz es
        · simp only [hl, Option.bind_some, cond_false, Bool.false_eq_true, if_false]
        · simp only [hl, Option.bind_some, if_true, cond_true]
          cases bnd es.length (some b) with
          | none => rfl
          | some h => simp only [Option.bind_some]; cases bnd h (some a) <;> rfl
theorem x_slc' {sz : Nat} {x : AV} {lo hi : Option CX} (hlo : ∀ x, lo = some x → ∃ a, x = .c a) (hhi : ∀ x, hi = some x → ∃ a, x = .c a) : Xx call o d (.slc sz (.c x) lo hi) ko uo = bindK (elemsOf x) (fun es => ifK (lenOk sz es) (fun _ => bindK (slcV es lo hi) (fun r => newK o [] (keys1 x) (.fsl r) ko ()) ()) ()) () := by
  unfold Xx
  rw [slc_of hlo hhi]
  simp only [bindK, ifK]
  cases elemsOf x with
  | none => rfl
  | some es =>
    simp only [Option.bind_some]
    cases lenOk sz es with
    | false => rfl
    | true =>
      simp only [cond_true]
      cases slcV es lo hi <;> rfl
theorem x_slc0 {sz : Nat} {x : AV} : Xx call o d (.slc sz (.c x) none none) ko uo = bindK (elemsOf x) (fun es => ifK (lenOk sz es) (fun _ => bindK (slcV es none none) (fun r => newK o [] (keys1 x) (.fsl r) ko ()) ()) ()) () := x_slc' (fun _ h => by cases h) (fun _ h => by cases h)
theorem x_slc1 {sz : Nat} {x a : AV} : Xx call o d (.slc sz (.c x) (some (.c a)) none) ko uo = bindK (elemsOf x) (fun es => ifK (lenOk sz es) (fun _ => bindK (slcV es (some (.c a)) none) (fun r => newK o [] (keys1 x) (.fsl r) ko ()) ()) ()) () := x_slc' (fun _ h => by cases h; exact ⟨_, rfl⟩) (fun _ h => by cases h)
theorem x_slc2 {sz : Nat} {x a : AV} : Xx call o d (.slc sz (.c x) none (some (.c a))) ko uo = bindK (elemsOf x) (fun es => ifK (lenOk sz es) (fun _ => bindK (slcV es none (some (.c a))) (fun r => newK o [] (keys1 x) (.fsl r) ko ()) ()) ()) () := x_slc' (fun _ h => by cases h) (fun _ h => by cases h; exact ⟨_, rfl⟩)
theorem x_slc3 {sz : Nat} {x a b : AV} : Xx call o d (.slc sz (.c x) (some (.c a)) (some (.c b))) ko uo = bindK (elemsOf x) (fun es => ifK (lenOk sz es) (fun _ => bindK (slcV es (some (.c a)) (some (.c b))) (fun r => newK o [] (keys1 x) (.fsl r) ko ()) ()) ()) () := x_slc' (fun _ h => by cases h; exact ⟨_, rfl⟩) (fun _ h => by cases h; exact ⟨_, rfl⟩)
theorem xp_of {op : COp} {m : (AV → Objs → List Key → Out) → Out} (h : ∀ ko' : AV → Objs → List Key → Out, (match denX call noG [] (getO o) d (countO d o) op with | some r => bif freshO o r.new && r.new.all (fun p => p.1.1 == d) then ko' r.x r.new r.seals else none | none => none) = m ko') : Xp call o d op kp up = m kp := h kp
theorem p_ld_f {g : Bool} {n : Nat} {cs : List AV} : Xp call o d (.ld g n (.c (.fptr cs))) kp up = bindK (pack g n cs) (fun x => kp x [] []) () := by
  simp only [Xp, denX, ev, bindK]
  cases pack g n cs <;> rfl
theorem p_ld_e {g : Bool} {n : Nat} {q : Key} {i f : Nat} {cs : List AV} : Xp call o d (.ld g n (.c (.eptr q i f cs))) kp up = bindK (pack g n cs) (fun x => kp x [] []) () := by
  simp only [Xp, denX, ev, bindK]
  cases pack g n cs <;> rfl
theorem p_ld_p {g : Bool} {n : Nat} {q : Key} {f : Nat} : Xp call o d (.ld g n (.c (.ptr q f))) kp up = bindK (varO o q) (fun cs => bindK (pack g n (cs.drop f)) (fun x => kp x [] []) ()) () := by
  simp only [Xp, denX, ev, bindK, varO]
  cases getO o q with
  | none => rfl
  | some b =>
    cases b <;> try rfl
    rename_i cs s
    simp only
    cases pack g n (cs.drop f) <;> rfl
theorem p_nil {sz : Sz} : Xp call o d (.nil sz) kp up = newP d o [((d, countO d o), .tail 0 sz false false)] [] (.asl (d, countO d o) []) kp () := rfl
theorem p_alloc {z : List AV} {sz : List Sz} : Xp call o d (.alloc z sz) kp up = newP d o (((d, countO d o), .var (adopt d (countO d o + 1) z sz).1 false) :: (adopt d (countO d o + 1) z sz).2) [] (.ptr (d, countO d o) 0) kp () := rfl
theorem p_bsl {n : Nat} {sz : Sz} {z : List AV} {ps : List (Nat × CX)} : Xp call o d (.bsl n sz z ps) kp up = bindK ((fzParts [] noG ps).bind fun q => (fillE sz (List.replicate n z) q.1).map fun es => (es, q.2)) (fun p => newP d o [((d, countO d o), .tail n sz true false)] p.2 (.asl (d, countO d o) p.1) kp ()) () := by
  simp only [Xp, denX, bindK]
  cases fzParts [] noG ps with
  | none => rfl
  | some q =>
    simp only [Option.bind_some]
    cases fillE sz (List.replicate n z) q.1 <;> rfl
theorem p_mki {t : TypeId} {x : AV} : Xp call o d (.mki t (.c x)) kp up = bindK (frz x) (fun y => newP d o [] (keys x) (.iface t y) kp ()) () := by
  simp only [Xp, denX, ev, bindK]
  cases frz x <;> rfl
theorem p_mkf {f : FuncId} {l : List CX} : Xp call o d (.mkf f l) kp up = bindK (capK o l) (fun q => newP d o [] q.2 (.fn f q.1) kp ()) () := by
  simp only [Xp, denX, bindK, capK]
  cases capsOf noG [] (getO o) l <;> rfl
theorem p_call {ow : Bool} {f : FuncId} {l : List CX} : Xp call o d (.call ow f l) kp up = bindK (argsOf [] noG l) (fun q => bindK (call f q.1) (fun r => newP d o (imp ow d (countO d o) r).2 q.2 (imp ow d (countO d o) r).1 kp ()) ()) () := by
  simp only [Xp, denX, bindK]
  cases argsOf [] noG l with
  | none => rfl
  | some q =>
    simp only [Option.bind_some]
    cases call f q.1 <;> rfl
theorem p_cal {ow : Bool} {f : FuncId} {caps : List AV} {l : List CX} : Xp call o d (.cal ow (.c (.fn f caps)) l) kp up = bindK (argsOf [] noG l) (fun q => bindK (call f (q.1 ++ caps)) (fun r => newP d o (imp ow d (countO d o) r).2 q.2 (imp ow d (countO d o) r).1 kp ()) ()) () := by
  simp only [Xp, denX, ev, bindK]
  cases argsOf [] noG l with
  | none => rfl
  | some q =>
    simp only [Option.bind_some]
    cases call f (q.1 ++ caps) <;> rfl
theorem p_slc' {sz : Nat} {x : AV} {lo hi : Option CX} (hlo : ∀ x, lo = some x → ∃ a, x = .c a) (hhi : ∀ x, hi = some x → ∃ a, x = .c a) : Xp call o d (.slc sz (.c x) lo hi) kp up = bindK (elemsOf x) (fun es => ifK (lenOk sz es) (fun _ => bindK (slcV es lo hi) (fun r => newP d o [] (keys1 x) (.fsl r) kp ()) ()) ()) () := by
  unfold Xp
  rw [slc_of hlo hhi]
  simp only [bindK, ifK]
  cases elemsOf x with
  | none => rfl
  | some es =>
    simp only [Option.bind_some]
    cases lenOk sz es with
    | false => rfl
    | true =>
      simp only [cond_true]
      cases slcV es lo hi <;> rfl
theorem p_slc1 {sz : Nat} {x a : AV} : Xp call o d (.slc sz (.c x) (some (.c a)) none) kp up = bindK (elemsOf x) (fun es => ifK (lenOk sz es) (fun _ => bindK (slcV es (some (.c a)) none) (fun r => newP d o [] (keys1 x) (.fsl r) kp ()) ()) ()) () := p_slc' (fun _ h => by cases h; exact ⟨_, rfl⟩) (fun _ h => by cases h)
theorem p_slc2 {sz : Nat} {x a : AV} : Xp call o d (.slc sz (.c x) none (some (.c a))) kp up = bindK (elemsOf x) (fun es => ifK (lenOk sz es) (fun _ => bindK (slcV es none (some (.c a))) (fun r => newP d o [] (keys1 x) (.fsl r) kp ()) ()) ()) () := p_slc' (fun _ h => by cases h) (fun _ h => by cases h; exact ⟨_, rfl⟩)
theorem p_slv1 {sz : Nat} {q : Key} {es : List (List AV)} {a : AV} : Xp call o d (.slv sz (.c (.asl q es)) (some (.c a)) none) kp up = ifK (lenOk sz es && decide (0 < es.length)) (fun _ => bindK (bnd es.length (some a)) (fun l => newP d o [] [] (.sub q l (es.length - l)) kp ()) ()) () := by
  simp only [Xp, denX, ev, bindK, ifK]
  cases h1 : lenOk sz es <;> by_cases h2 : 0 < es.length <;> simp only [h2, decide_true, decide_false, Bool.and_true, Bool.and_false, Bool.true_and, Bool.false_and, cond_true, cond_false, and_self, and_true, and_false, if_true, if_false, Bool.false_eq_true]
  cases bnd es.length (some a) <;> rfl
theorem p_slv2 {sz : Nat} {q : Key} {es : List (List AV)} {a : AV} : Xp call o d (.slv sz (.c (.asl q es)) none (some (.c a))) kp up = ifK (lenOk sz es && decide (0 < es.length)) (fun _ => bindK (bnd es.length (some a)) (fun h => newP d o [] [] (.sub q 0 h) kp ()) ()) () := by
  simp only [Xp, denX, ev, bindK, ifK]
  cases h1 : lenOk sz es <;> by_cases h2 : 0 < es.length <;> simp only [h2, decide_true, decide_false, Bool.and_true, Bool.and_false, Bool.true_and, Bool.false_and, cond_true, cond_false, and_self, and_true, and_false, if_true, if_false, Bool.false_eq_true]
  cases bnd es.length (some a) <;> rfl
def varF (o : Objs) (q : Key) : Option (List AV) := match getO o q with
  | some (.var cs false) => some cs
  | _ => none
theorem v_p {n : Nat} {q : Key} {f : Nat} {x : AV} {kv : Objs → Out} {uv : Tag kv} : Xv o n (.ptr q f) x kv uv = bindK (varF o q) (fun cs => ifK (decide ((cellsOf x).length = n) && decide (f + n ≤ cs.length) && solid x) (fun _ => kv (setO o q (.var (splice cs f (cellsOf x)) false))) ()) () := by
  simp only [Xv, bindK, varF, ifK]
  cases getO o q with
  | none => rfl
  | some b =>
    cases b <;> try rfl
    rename_i cs s
    cases s <;> rfl
def tailT (o : Objs) (q : Key) : Bool := match getO o q with
  | some (.tail _ _ true _) => true
  | _ => false
theorem s_e {n : Nat} {q : Key} {i f : Nat} {cs : List AV} {x : AV} {ks : (AV → AV) → Objs → Out} {us : Tag ks} : Xs o n (.eptr q i f cs) x ks us = ifK (tailT o q) (fun _ => bindK (frz x) (fun y => ifK (decide ((cellsOf y).length = n) && decide (n ≤ cs.length) && !(keys x).contains q) (fun _ => ks (putT q i f (cellsOf y)) (sealO (o.map fun p => (p.1, putO q i f (cellsOf y) p.2)) (keys x))) ()) ()) () := by
  simp only [Xs, bindK, tailT, ifK]
  cases getO o q with
  | none => rfl
  | some b =>
    cases b <;> try rfl
    rename_i l sz mu shr
    cases mu
    · rfl
    · simp only [cond_true]
      cases frz x <;> rfl
theorem a_any {str : Bool} {sz : Sz} {b : Nat} {x y : AV} : Xa o d str sz b x y ko uo = bindK (appV o d str sz b x y) (fun p => ko p.1 p.2) () := by
  simp only [Xa, bindK]
  cases appV o d str sz b x y <;> rfl
theorem Xag_t {str : Bool} {sz : Sz} {b : Nat} {x y : AV} : Xag (.v (.bool true)) true o d str sz b x y ko uo = Xa o d str sz b x y ko uo := rfl
theorem Xag_f {str : Bool} {sz : Sz} {b : Nat} {x y : AV} : Xag (.v (.bool false)) true o d str sz b x y ko uo = ko (.tup []) o := rfl
theorem Xag_t' {str : Bool} {sz : Sz} {b : Nat} {x y : AV} : Xag (.v (.bool false)) false o d str sz b x y ko uo = Xa o d str sz b x y ko uo := rfl
theorem Xag_f' {str : Bool} {sz : Sz} {b : Nat} {x y : AV} : Xag (.v (.bool true)) false o d str sz b x y ko uo = ko (.tup []) o := rfl
theorem Xag_n {g : Bool} {str : Bool} {sz : Sz} {b : Nat} {x y : AV} : Xag (.tup []) g o d str sz b x y ko uo = ko (.tup []) o := rfl
section
variable {acc : Objs} {lens : List (Key × Nat)} {h : Nat} {str : Bool} {sz : Sz} {b : Nat} {x y : AV} {kd : AV → List (Key × Nat) → Out} {ud : Tag kd}
theorem Xdg_t : Xdg (.v (.bool true)) true acc lens h str sz b x y kd ud = Xd acc lens h str sz b x y kd ud := rfl
theorem Xdg_f : Xdg (.v (.bool false)) true acc lens h str sz b x y kd ud = kd (.tup []) lens := rfl
theorem Xdg_t' : Xdg (.v (.bool false)) false acc lens h str sz b x y kd ud = Xd acc lens h str sz b x y kd ud := rfl
theorem Xdg_f' : Xdg (.v (.bool true)) false acc lens h str sz b x y kd ud = kd (.tup []) lens := rfl
theorem Xdg_n {g : Bool} : Xdg (.tup []) g acc lens h str sz b x y kd ud = kd (.tup []) lens := rfl
theorem d_any : Xd acc lens h str sz b x y kd ud = bindK (apdV acc lens h str sz b x y) (fun p => kd p.1 ((p.2.1, p.2.2) :: lens)) () := by
  simp only [Xd, bindK]
  cases apdV acc lens h str sz b x y <;> rfl
theorem finL_0 {o : Objs} : finL o [] = o := rfl
theorem finL_1 {o : Objs} {q : Key} {n : Nat} {l : List (Key × Nat)} : finL o ((q, n) :: l) = setLenO (finL o l) q n := rfl
end
end
theorem m_0 {ks : List Nat} {f : Objs → Out} {o : Objs} : M0 ks f o = f (maskO ks o) := rfl
theorem m_1 {ks : List Nat} {f : Objs → AV → Out} {o : Objs} {x1 : AV} : M1 ks f o x1 = f (maskO ks o) (msk ks x1) := rfl
theorem m_2 {ks : List Nat} {f : Objs → AV → AV → Out} {o : Objs} {x1 x2 : AV} : M2 ks f o x1 x2 = f (maskO ks o) (msk ks x1) (msk ks x2) := rfl
theorem m_3 {ks : List Nat} {f : Objs → AV → AV → AV → Out} {o : Objs} {x1 x2 x3 : AV} : M3 ks f o x1 x2 x3 = f (maskO ks o) (msk ks x1) (msk ks x2) (msk ks x3) := rfl
theorem m_4 {ks : List Nat} {f : Objs → AV → AV → AV → AV → Out} {o : Objs} {x1 x2 x3 x4 : AV} : M4 ks f o x1 x2 x3 x4 = f (maskO ks o) (msk ks x1) (msk ks x2) (msk ks x3) (msk ks x4) := rfl
theorem m_5 {ks : List Nat} {f : Objs → AV → AV → AV → AV → AV → Out} {o : Objs} {x1 x2 x3 x4 x5 : AV} : M5 ks f o x1 x2 x3 x4 x5 = f (maskO ks o) (msk ks x1) (msk ks x2) (msk ks x3) (msk ks x4) (msk ks x5) := rfl
theorem m_6 {ks : List Nat} {f : Objs → AV → AV → AV → AV → AV → AV → Out} {o : Objs} {x1 x2 x3 x4 x5 x6 : AV} : M6 ks f o x1 x2 x3 x4 x5 x6 = f (maskO ks o) (msk ks x1) (msk ks x2) (msk ks x3) (msk ks x4) (msk ks x5) (msk ks x6) := rfl
theorem m_7 {ks : List Nat} {f : Objs → AV → AV → AV → AV → AV → AV → AV → Out} {o : Objs} {x1 x2 x3 x4 x5 x6 x7 : AV} : M7 ks f o x1 x2 x3 x4 x5 x6 x7 = f (maskO ks o) (msk ks x1) (msk ks x2) (msk ks x3) (msk ks x4) (msk ks x5) (msk ks x6) (msk ks x7) := rfl
theorem m_8 {ks : List Nat} {f : Objs → AV → AV → AV → AV → AV → AV → AV → AV → Out} {o : Objs} {x1 x2 x3 x4 x5 x6 x7 x8 : AV} : M8 ks f o x1 x2 x3 x4 x5 x6 x7 x8 = f (maskO ks o) (msk ks x1) (msk ks x2) (msk ks x3) (msk ks x4) (msk ks x5) (msk ks x6) (msk ks x7) (msk ks x8) := rfl
theorem m_9 {ks : List Nat} {f : Objs → AV → AV → AV → AV → AV → AV → AV → AV → AV → Out} {o : Objs} {x1 x2 x3 x4 x5 x6 x7 x8 x9 : AV} : M9 ks f o x1 x2 x3 x4 x5 x6 x7 x8 x9 = f (maskO ks o) (msk ks x1) (msk ks x2) (msk ks x3) (msk ks x4) (msk ks x5) (msk ks x6) (msk ks x7) (msk ks x8) (msk ks x9) := rfl
theorem m_10 {ks : List Nat} {f : Objs → AV → AV → AV → AV → AV → AV → AV → AV → AV → AV → Out} {o : Objs} {x1 x2 x3 x4 x5 x6 x7 x8 x9 x10 : AV} : M10 ks f o x1 x2 x3 x4 x5 x6 x7 x8 x9 x10 = f (maskO ks o) (msk ks x1) (msk ks x2) (msk ks x3) (msk ks x4) (msk ks x5) (msk ks x6) (msk ks x7) (msk ks x8) (msk ks x9) (msk ks x10) := rfl
theorem m_11 {ks : List Nat} {f : Objs → AV → AV → AV → AV → AV → AV → AV → AV → AV → AV → AV → Out} {o : Objs} {x1 x2 x3 x4 x5 x6 x7 x8 x9 x10 x11 : AV} : M11 ks f o x1 x2 x3 x4 x5 x6 x7 x8 x9 x10 x11 = f (maskO ks o) (msk ks x1) (msk ks x2) (msk ks x3) (msk ks x4) (msk ks x5) (msk ks x6) (msk ks x7) (msk ks x8) (msk ks x9) (msk ks x10) (msk ks x11) := rfl
theorem m_12 {ks : List Nat} {f : Objs → AV → AV → AV → AV → AV → AV → AV → AV → AV → AV → AV → AV → Out} {o : Objs} {x1 x2 x3 x4 x5 x6 x7 x8 x9 x10 x11 x12 : AV} : M12 ks f o x1 x2 x3 x4 x5 x6 x7 x8 x9 x10 x11 x12 = f (maskO ks o) (msk ks x1) (msk ks x2) (msk ks x3) (msk ks x4) (msk ks x5) (msk ks x6) (msk ks x7) (msk ks x8) (msk ks x9) (msk ks x10) (msk ks x11) (msk ks x12) := rfl
theorem m_13 {ks : List Nat} {f : Objs → AV → AV → AV → AV → AV → AV → AV → AV → AV → AV → AV → AV → AV → Out} {o : Objs} {x1 x2 x3 x4 x5 x6 x7 x8 x9 x10 x11 x12 x13 : AV} : M13 ks f o x1 x2 x3 x4 x5 x6 x7 x8 x9 x10 x11 x12 x13 = f (maskO ks o) (msk ks x1) (msk ks x2) (msk ks x3) (msk ks x4) (msk ks x5) (msk ks x6) (msk ks x7) (msk ks x8) (msk ks x9) (msk ks x10) (msk ks x11) (msk ks x12) (msk ks x13) := rfl
theorem m_14 {ks : List Nat} {f : Objs → AV → AV → AV → AV → AV → AV → AV → AV → AV → AV → AV → AV → AV → AV → Out} {o : Objs} {x1 x2 x3 x4 x5 x6 x7 x8 x9 x10 x11 x12 x13 x14 : AV} : M14 ks f o x1 x2 x3 x4 x5 x6 x7 x8 x9 x10 x11 x12 x13 x14 = f (maskO ks o) (msk ks x1) (msk ks x2) (msk ks x3) (msk ks x4) (msk ks x5) (msk ks x6) (msk ks x7) (msk ks x8) (msk ks x9) (msk ks x10) (msk ks x11) (msk ks x12) (msk ks x13) (msk ks x14) := rfl
theorem m_15 {ks : List Nat} {f : Objs → AV → AV → AV → AV → AV → AV → AV → AV → AV → AV → AV → AV → AV → AV → AV → Out} {o : Objs} {x1 x2 x3 x4 x5 x6 x7 x8 x9 x10 x11 x12 x13 x14 x15 : AV} : M15 ks f o x1 x2 x3 x4 x5 x6 x7 x8 x9 x10 x11 x12 x13 x14 x15 = f (maskO ks o) (msk ks x1) (msk ks x2) (msk ks x3) (msk ks x4) (msk ks x5) (msk ks x6) (msk ks x7) (msk ks x8) (msk ks x9) (msk ks x10) (msk ks x11) (msk ks x12) (msk ks x13) (msk ks x14) (msk ks x15) := rfl
theorem m_16 {ks : List Nat} {f : Objs → AV → AV → AV → AV → AV → AV → AV → AV → AV → AV → AV → AV → AV → AV → AV → AV → Out} {o : Objs} {x1 x2 x3 x4 x5 x6 x7 x8 x9 x10 x11 x12 x13 x14 x15 x16 : AV} : M16 ks f o x1 x2 x3 x4 x5 x6 x7 x8 x9 x10 x11 x12 x13 x14 x15 x16 = f (maskO ks o) (msk ks x1) (msk ks x2) (msk ks x3) (msk ks x4) (msk ks x5) (msk ks x6) (msk ks x7) (msk ks x8) (msk ks x9) (msk ks x10) (msk ks x11) (msk ks x12) (msk ks x13) (msk ks x14) (msk ks x15) (msk ks x16) := rfl
theorem m_17 {ks : List Nat} {f : Objs → AV → AV → AV → AV → AV → AV → AV → AV → AV → AV → AV → AV → AV → AV → AV → AV → AV → Out} {o : Objs} {x1 x2 x3 x4 x5 x6 x7 x8 x9 x10 x11 x12 x13 x14 x15 x16 x17 : AV} : M17 ks f o x1 x2 x3 x4 x5 x6 x7 x8 x9 x10 x11 x12 x13 x14 x15 x16 x17 = f (maskO ks o) (msk ks x1) (msk ks x2) (msk ks x3) (msk ks x4) (msk ks x5) (msk ks x6) (msk ks x7) (msk ks x8) (msk ks x9) (msk ks x10) (msk ks x11) (msk ks x12) (msk ks x13) (msk ks x14) (msk ks x15) (msk ks x16) (msk ks x17) := rfl
theorem m_18 {ks : List Nat} {f : Objs → AV → AV → AV → AV → AV → AV → AV → AV → AV → AV → AV → AV → AV → AV → AV → AV → AV → AV → Out} {o : Objs} {x1 x2 x3 x4 x5 x6 x7 x8 x9 x10 x11 x12 x13 x14 x15 x16 x17 x18 : AV} : M18 ks f o x1 x2 x3 x4 x5 x6 x7 x8 x9 x10 x11 x12 x13 x14 x15 x16 x17 x18 = f (maskO ks o) (msk ks x1) (msk ks x2) (msk ks x3) (msk ks x4) (msk ks x5) (msk ks x6) (msk ks x7) (msk ks x8) (msk ks x9) (msk ks x10) (msk ks x11) (msk ks x12) (msk ks x13) (msk ks x14) (msk ks x15) (msk ks x16) (msk ks x17) (msk ks x18) := rfl
theorem m_19 {ks : List Nat} {f : Objs → AV → AV → AV → AV → AV → AV → AV → AV → AV → AV → AV → AV → AV → AV → AV → AV → AV → AV → AV → Out} {o : Objs} {x1 x2 x3 x4 x5 x6 x7 x8 x9 x10 x11 x12 x13 x14 x15 x16 x17 x18 x19 : AV} : M19 ks f o x1 x2 x3 x4 x5 x6 x7 x8 x9 x10 x11 x12 x13 x14 x15 x16 x17 x18 x19 = f (maskO ks o) (msk ks x1) (msk ks x2) (msk ks x3) (msk ks x4) (msk ks x5) (msk ks x6) (msk ks x7) (msk ks x8) (msk ks x9) (msk ks x10) (msk ks x11) (msk ks x12) (msk ks x13) (msk ks x14) (msk ks x15) (msk ks x16) (msk ks x17) (msk ks x18) (msk ks x19) := rfl
theorem m_20 {ks : List Nat} {f : Objs → AV → AV → AV → AV → AV → AV → AV → AV → AV → AV → AV → AV → AV → AV → AV → AV → AV → AV → AV → AV → Out} {o : Objs} {x1 x2 x3 x4 x5 x6 x7 x8 x9 x10 x11 x12 x13 x14 x15 x16 x17 x18 x19 x20 : AV} : M20 ks f o x1 x2 x3 x4 x5 x6 x7 x8 x9 x10 x11 x12 x13 x14 x15 x16 x17 x18 x19 x20 = f (maskO ks o) (msk ks x1) (msk ks x2) (msk ks x3) (msk ks x4) (msk ks x5) (msk ks x6) (msk ks x7) (msk ks x8) (msk ks x9) (msk ks x10) (msk ks x11) (msk ks x12) (msk ks x13) (msk ks x14) (msk ks x15) (msk ks x16) (msk ks x17) (msk ks x18) (msk ks x19) (msk ks x20) := rfl
theorem m_21 {ks : List Nat} {f : Objs → AV → AV → AV → AV → AV → AV → AV → AV → AV → AV → AV → AV → AV → AV → AV → AV → AV → AV → AV → AV → AV → Out} {o : Objs} {x1 x2 x3 x4 x5 x6 x7 x8 x9 x10 x11 x12 x13 x14 x15 x16 x17 x18 x19 x20 x21 : AV} : M21 ks f o x1 x2 x3 x4 x5 x6 x7 x8 x9 x10 x11 x12 x13 x14 x15 x16 x17 x18 x19 x20 x21 = f (maskO ks o) (msk ks x1) (msk ks x2) (msk ks x3) (msk ks x4) (msk ks x5) (msk ks x6) (msk ks x7) (msk ks x8) (msk ks x9) (msk ks x10) (msk ks x11) (msk ks x12) (msk ks x13) (msk ks x14) (msk ks x15) (msk ks x16) (msk ks x17) (msk ks x18) (msk ks x19) (msk ks x20) (msk ks x21) := rfl
theorem m_22 {ks : List Nat} {f : Objs → AV → AV → AV → AV → AV → AV → AV → AV → AV → AV → AV → AV → AV → AV → AV → AV → AV → AV → AV → AV → AV → AV → Out} {o : Objs} {x1 x2 x3 x4 x5 x6 x7 x8 x9 x10 x11 x12 x13 x14 x15 x16 x17 x18 x19 x20 x21 x22 : AV} : M22 ks f o x1 x2 x3 x4 x5 x6 x7 x8 x9 x10 x11 x12 x13 x14 x15 x16 x17 x18 x19 x20 x21 x22 = f (maskO ks o) (msk ks x1) (msk ks x2) (msk ks x3) (msk ks x4) (msk ks x5) (msk ks x6) (msk ks x7) (msk ks x8) (msk ks x9) (msk ks x10) (msk ks x11) (msk ks x12) (msk ks x13) (msk ks x14) (msk ks x15) (msk ks x16) (msk ks x17) (msk ks x18) (msk ks x19) (msk ks x20) (msk ks x21) (msk ks x22) := rfl
theorem m_23 {ks : List Nat} {f : Objs → AV → AV → AV → AV → AV → AV → AV → AV → AV → AV → AV → AV → AV → AV → AV → AV → AV → AV → AV → AV → AV → AV → AV → Out} {o : Objs} {x1 x2 x3 x4 x5 x6 x7 x8 x9 x10 x11 x12 x13 x14 x15 x16 x17 x18 x19 x20 x21 x22 x23 : AV} : M23 ks f o x1 x2 x3 x4 x5 x6 x7 x8 x9 x10 x11 x12 x13 x14 x15 x16 x17 x18 x19 x20 x21 x22 x23 = f (maskO ks o) (msk ks x1) (msk ks x2) (msk ks x3) (msk ks x4) (msk ks x5) (msk ks x6) (msk ks x7) (msk ks x8) (msk ks x9) (msk ks x10) (msk ks x11) (msk ks x12) (msk ks x13) (msk ks x14) (msk ks x15) (msk ks x16) (msk ks x17) (msk ks x18) (msk ks x19) (msk ks x20) (msk ks x21) (msk ks x22) (msk ks x23) := rfl
theorem m_24 {ks : List Nat} {f : Objs → AV → AV → AV → AV → AV → AV → AV → AV → AV → AV → AV → AV → AV → AV → AV → AV → AV → AV → AV → AV → AV → AV → AV → AV → Out} {o : Objs} {x1 x2 x3 x4 x5 x6 x7 x8 x9 x10 x11 x12 x13 x14 x15 x16 x17 x18 x19 x20 x21 x22 x23 x24 : AV} : M24 ks f o x1 x2 x3 x4 x5 x6 x7 x8 x9 x10 x11 x12 x13 x14 x15 x16 x17 x18 x19 x20 x21 x22 x23 x24 = f (maskO ks o) (msk ks x1) (msk ks x2) (msk ks x3) (msk ks x4) (msk ks x5) (msk ks x6) (msk ks x7) (msk ks x8) (msk ks x9) (msk ks x10) (msk ks x11) (msk ks x12) (msk ks x13) (msk ks x14) (msk ks x15) (msk ks x16) (msk ks x17) (msk ks x18) (msk ks x19) (msk ks x20) (msk ks x21) (msk ks x22) (msk ks x23) (msk ks x24) := rfl
theorem m_25 {ks : List Nat} {f : Objs → AV → AV → AV → AV → AV → AV → AV → AV → AV → AV → AV → AV → AV → AV → AV → AV → AV → AV → AV → AV → AV → AV → AV → AV → AV → Out} {o : Objs} {x1 x2 x3 x4 x5 x6 x7 x8 x9 x10 x11 x12 x13 x14 x15 x16 x17 x18 x19 x20 x21 x22 x23 x24 x25 : AV} : M25 ks f o x1 x2 x3 x4 x5 x6 x7 x8 x9 x10 x11 x12 x13 x14 x15 x16 x17 x18 x19 x20 x21 x22 x23 x24 x25 = f (maskO ks o) (msk ks x1) (msk ks x2) (msk ks x3) (msk ks x4) (msk ks x5) (msk ks x6) (msk ks x7) (msk ks x8) (msk ks x9) (msk ks x10) (msk ks x11) (msk ks x12) (msk ks x13) (msk ks x14) (msk ks x15) (msk ks x16) (msk ks x17) (msk ks x18) (msk ks x19) (msk ks x20) (msk ks x21) (msk ks x22) (msk ks x23) (msk ks x24) (msk ks x25) := rfl
theorem m_26 {ks : List Nat} {f : Objs → AV → AV → AV → AV → AV → AV → AV → AV → AV → AV → AV → AV → AV → AV → AV → AV → AV → AV → AV → AV → AV → AV → AV → AV → AV → AV → Out} {o : Objs} {x1 x2 x3 x4 x5 x6 x7 x8 x9 x10 x11 x12 x13 x14 x15 x16 x17 x18 x19 x20 x21 x22 x23 x24 x25 x26 : AV} : M26 ks f o x1 x2 x3 x4 x5 x6 x7 x8 x9 x10 x11 x12 x13 x14 x15 x16 x17 x18 x19 x20 x21 x22 x23 x24 x25 x26 = f (maskO ks o) (msk ks x1) (msk ks x2) (msk ks x3) (msk ks x4) (msk ks x5) (msk ks x6) (msk ks x7) (msk ks x8) (msk ks x9) (msk ks x10) (msk ks x11) (msk ks x12) (msk ks x13) (msk ks x14) (msk ks x15) (msk ks x16) (msk ks x17) (msk ks x18) (msk ks x19) (msk ks x20) (msk ks x21) (msk ks x22) (msk ks x23) (msk ks x24) (msk ks x25) (msk ks x26) := rfl
set_option maxRecDepth 100000 in
theorem X : type_of% (And.intro @q_eqn_pn <| And.intro @q_eqn_pb <| And.intro @q_eqn_pp <| And.intro @q_eqp <| And.intro @x_cvu <| And.intro @p_slv1 <| And.intro @p_slv2 <| And.intro @m_0 <| And.intro @m_1 <| And.intro @m_2 <| And.intro @m_3 <| And.intro @m_4 <| And.intro @m_5 <| And.intro @m_6 <| And.intro @m_7 <| And.intro @m_8 <| And.intro @m_9 <| And.intro @m_10 <| And.intro @m_11 <| And.intro @m_12 <| And.intro @m_13 <| And.intro @m_14 <| And.intro @m_15 <| And.intro @m_16 <| And.intro @m_17 <| And.intro @m_18 <| And.intro @m_19 <| And.intro @m_20 <| And.intro @m_21 <| And.intro @m_22 <| And.intro @m_23 <| And.intro @m_24 <| And.intro @m_25 <| And.intro @m_26 <| And.intro @Xag_t <| And.intro @Xag_f <| And.intro @Xag_t' <| And.intro @Xag_f' <| And.intro @Xag_n <| And.intro @Xdg_t <| And.intro @Xdg_f <| And.intro @Xdg_t' <| And.intro @Xdg_f' <| And.intro @Xdg_n <| And.intro @d_any <| And.intro @finL_0 <| And.intro @finL_1 <| And.intro @bindK_some <| And.intro @bindK_none <| And.intro @ifK_t <| And.intro @ifK_f <| And.intro @Xc_t <| And.intro @Xc_f <| And.intro @Xgq_t <| And.intro @Xgq_f <| And.intro @Xgq_t' <| And.intro @Xgq_f' <| And.intro @Xgq_n <| And.intro @Xxg_t <| And.intro @Xxg_f <| And.intro @Xxg_t' <| And.intro @Xxg_f' <| And.intro @Xxg_n <| And.intro @Xpg_t <| And.intro @Xpg_f <| And.intro @Xpg_t' <| And.intro @Xpg_f' <| And.intro @Xpg_n <| And.intro @q_mv <| And.intro @q_pick_t <| And.intro @q_pick_f <| And.intro @q_pick_b <| And.intro @q_build <| And.intro @q_nck_p <| And.intro @q_nck_e <| And.intro @q_nck_f <| And.intro @q_nck_fn <| And.intro @q_add <| And.intro @q_sub <| And.intro @q_mul <| And.intro @q_quo <| And.intro @q_rem <| And.intro @q_eql <| And.intro @q_neq <| And.intro @q_lss <| And.intro @q_leq <| And.intro @q_gtr <| And.intro @q_geq <| And.intro @q_and <| And.intro @q_or <| And.intro @q_xor <| And.intro @q_shl <| And.intro @q_shr <| And.intro @q_neg <| And.intro @q_cvi <| And.intro @q_b2s_f <| And.intro @q_b2s_a <| And.intro @q_max <| And.intro @q_min <| And.intro @q_sadd <| And.intro @q_seql <| And.intro @q_sneq <| And.intro @q_slss <| And.intro @q_sleq <| And.intro @q_sgtr <| And.intro @q_sgeq <| And.intro @q_eqb <| And.intro @q_neb <| And.intro @q_eqs <| And.intro @q_nes <| And.intro @q_not <| And.intro @q_fad_p <| And.intro @q_fad_f <| And.intro @q_fad_e <| And.intro @q_fld <| And.intro @q_ias_f <| And.intro @q_ias_a <| And.intro @q_iaa_p <| And.intro @q_iaa_f <| And.intro @q_ixs <| And.intro @q_ixa <| And.intro @q_sls0 <| And.intro @q_sls1 <| And.intro @q_sls2 <| And.intro @q_sls3 <| And.intro @q_ext <| And.intro @q_len_s <| And.intro @q_len_f <| And.intro @q_len_a <| And.intro @q_len_n <| And.intro @q_tas_y <| And.intro @q_tas_ok <| And.intro @q_tas_nil <| And.intro @q_eqn_f0 <| And.intro @q_eqn_fn <| And.intro @fin_nil <| And.intro @x_ld_f <| And.intro @x_ld_e <| And.intro @x_ld_p <| And.intro @x_nil <| And.intro @x_alloc <| And.intro @x_box <| And.intro @x_bsl <| And.intro @x_mks <| And.intro @x_mki <| And.intro @x_mkf <| And.intro @x_call <| And.intro @x_cal <| And.intro @x_slc0 <| And.intro @x_slc1 <| And.intro @x_slc2 <| And.intro @x_slc3 <| And.intro @p_ld_f <| And.intro @p_ld_e <| And.intro @p_ld_p <| And.intro @p_nil <| And.intro @p_alloc <| And.intro @p_bsl <| And.intro @p_mki <| And.intro @p_mkf <| And.intro @p_call <| And.intro @p_cal <| And.intro @p_slc1 <| And.intro @p_slc2 <| And.intro @v_p <| And.intro @s_e <| @a_any) := And.intro @q_eqn_pn <| And.intro @q_eqn_pb <| And.intro @q_eqn_pp <| And.intro @q_eqp <| And.intro @x_cvu <| And.intro @p_slv1 <| And.intro @p_slv2 <| And.intro @m_0 <| And.intro @m_1 <| And.intro @m_2 <| And.intro @m_3 <| And.intro @m_4 <| And.intro @m_5 <| And.intro @m_6 <| And.intro @m_7 <| And.intro @m_8 <| And.intro @m_9 <| And.intro @m_10 <| And.intro @m_11 <| And.intro @m_12 <| And.intro @m_13 <| And.intro @m_14 <| And.intro @m_15 <| And.intro @m_16 <| And.intro @m_17 <| And.intro @m_18 <| And.intro @m_19 <| And.intro @m_20 <| And.intro @m_21 <| And.intro @m_22 <| And.intro @m_23 <| And.intro @m_24 <| And.intro @m_25 <| And.intro @m_26 <| And.intro @Xag_t <| And.intro @Xag_f <| And.intro @Xag_t' <| And.intro @Xag_f' <| And.intro @Xag_n <| And.intro @Xdg_t <| And.intro @Xdg_f <| And.intro @Xdg_t' <| And.intro @Xdg_f' <| And.intro @Xdg_n <| And.intro @d_any <| And.intro @finL_0 <| And.intro @finL_1 <| And.intro @bindK_some <| And.intro @bindK_none <| And.intro @ifK_t <| And.intro @ifK_f <| And.intro @Xc_t <| And.intro @Xc_f <| And.intro @Xgq_t <| And.intro @Xgq_f <| And.intro @Xgq_t' <| And.intro @Xgq_f' <| And.intro @Xgq_n <| And.intro @Xxg_t <| And.intro @Xxg_f <| And.intro @Xxg_t' <| And.intro @Xxg_f' <| And.intro @Xxg_n <| And.intro @Xpg_t <| And.intro @Xpg_f <| And.intro @Xpg_t' <| And.intro @Xpg_f' <| And.intro @Xpg_n <| And.intro @q_mv <| And.intro @q_pick_t <| And.intro @q_pick_f <| And.intro @q_pick_b <| And.intro @q_build <| And.intro @q_nck_p <| And.intro @q_nck_e <| And.intro @q_nck_f <| And.intro @q_nck_fn <| And.intro @q_add <| And.intro @q_sub <| And.intro @q_mul <| And.intro @q_quo <| And.intro @q_rem <| And.intro @q_eql <| And.intro @q_neq <| And.intro @q_lss <| And.intro @q_leq <| And.intro @q_gtr <| And.intro @q_geq <| And.intro @q_and <| And.intro @q_or <| And.intro @q_xor <| And.intro @q_shl <| And.intro @q_shr <| And.intro @q_neg <| And.intro @q_cvi <| And.intro @q_b2s_f <| And.intro @q_b2s_a <| And.intro @q_max <| And.intro @q_min <| And.intro @q_sadd <| And.intro @q_seql <| And.intro @q_sneq <| And.intro @q_slss <| And.intro @q_sleq <| And.intro @q_sgtr <| And.intro @q_sgeq <| And.intro @q_eqb <| And.intro @q_neb <| And.intro @q_eqs <| And.intro @q_nes <| And.intro @q_not <| And.intro @q_fad_p <| And.intro @q_fad_f <| And.intro @q_fad_e <| And.intro @q_fld <| And.intro @q_ias_f <| And.intro @q_ias_a <| And.intro @q_iaa_p <| And.intro @q_iaa_f <| And.intro @q_ixs <| And.intro @q_ixa <| And.intro @q_sls0 <| And.intro @q_sls1 <| And.intro @q_sls2 <| And.intro @q_sls3 <| And.intro @q_ext <| And.intro @q_len_s <| And.intro @q_len_f <| And.intro @q_len_a <| And.intro @q_len_n <| And.intro @q_tas_y <| And.intro @q_tas_ok <| And.intro @q_tas_nil <| And.intro @q_eqn_f0 <| And.intro @q_eqn_fn <| And.intro @fin_nil <| And.intro @x_ld_f <| And.intro @x_ld_e <| And.intro @x_ld_p <| And.intro @x_nil <| And.intro @x_alloc <| And.intro @x_box <| And.intro @x_bsl <| And.intro @x_mks <| And.intro @x_mki <| And.intro @x_mkf <| And.intro @x_call <| And.intro @x_cal <| And.intro @x_slc0 <| And.intro @x_slc1 <| And.intro @x_slc2 <| And.intro @x_slc3 <| And.intro @p_ld_f <| And.intro @p_ld_e <| And.intro @p_ld_p <| And.intro @p_nil <| And.intro @p_alloc <| And.intro @p_bsl <| And.intro @p_mki <| And.intro @p_mkf <| And.intro @p_call <| And.intro @p_cal <| And.intro @p_slc1 <| And.intro @p_slc2 <| And.intro @v_p <| And.intro @s_e <| @a_any
end Go.Proofs.YtmhdapjmndfkgaaGreatDoor.Eng.V
namespace Go.Proofs.YtmhdapjmndfkgaaGreatDoor.Eng.V
open Go Go.Proofs.YtmhdapjmndfkgaaGreatDoor.Eng
section
variable {o : Objs} {d j n m off i : Nat} {sz : Sz} {q q' : Key} {x y : AV} {cs l : List AV} {es : List (List AV)} {b : Bool} {v : Value} {kd : IntKind} {a : Int} {s : ByteArray} {f : FuncId} {t : TypeId}
theorem w_packT : pack true n cs = if n ≤ cs.length then some (.agg (cs.take n)) else none := by unfold pack; simp
theorem w_packF : pack false 1 (x :: l) = some x := by simp [pack]
theorem w_splice : splice cs off l = cs.take off ++ l ++ cs.drop (off + l.length) := rfl
theorem w_fill0 : fill cs [] = some cs := rfl
theorem w_fill1 {ps : List (Nat × Nat × AV)} : fill cs ((off, n, x) :: ps) = if (cellsOf x).length = n ∧ off + n ≤ cs.length ∧ solid x = true then fill (splice cs off (cellsOf x)) ps else none := rfl
theorem w_fillE0 : fillE m es [] = some es := rfl
theorem w_fillE1 {ps : List (Nat × AV)} : fillE m es ((i, x) :: ps) = if (cellsOf x).length = m ∧ i < es.length then fillE m (es.set i (cellsOf x)) ps else none := rfl
theorem w_evc {T : List AV} {G : Nat → AV} : ev T G (.c x) = x := rfl
theorem w_fz0 : fzParts [] noG [] = some ([], []) := rfl
theorem w_fz1 {ps : List (Nat × CX)} : fzParts [] noG ((i, .c x) :: ps) = (frz x).bind fun y => (fzParts [] noG ps).bind fun q => some ((i, y) :: q.1, keys x ++ q.2) := rfl
theorem w_args0 : argsOf [] noG [] = some ([], []) := rfl
theorem w_args1 {ps : List CX} : argsOf [] noG (.c x :: ps) = (frz x).bind fun y => (argsOf [] noG ps).bind fun q => some (y :: q.1, keys x ++ q.2) := rfl
theorem w_c_v : cellsOf (.v v) = [.v v] := rfl
theorem w_c_agg : cellsOf (.agg cs) = cs := rfl
theorem w_c_fsl : cellsOf (.fsl es) = [.fsl es] := rfl
theorem w_c_asl : cellsOf (.asl q es) = [.asl q es] := rfl
theorem w_c_nil : cellsOf .nilsl = [.nilsl] := rfl
theorem w_c_fn : cellsOf (.fn f cs) = [.fn f cs] := rfl
theorem w_c_if : cellsOf (.iface t x) = [.iface t x] := rfl
theorem w_c_tup : cellsOf (.tup cs) = [.tup cs] := rfl
theorem w_c_fp : cellsOf (.fptr cs) = [.fptr cs] := rfl
theorem w_s_v : solid (.v v) = true := rfl
theorem w_s_agg : solid (.agg []) = true := rfl
theorem w_s_agc {c : AV} : solid (.agg (c :: cs)) = !isB c := by cases c <;> rfl
theorem w_b_v : isB (.v v) = false := rfl
theorem w_b_fsl : isB (.fsl es) = false := rfl
theorem w_b_asl : isB (.asl q es) = false := rfl
theorem w_b_nil : isB .nilsl = false := rfl
theorem w_b_fn : isB (.fn f cs) = false := rfl
theorem w_b_if : isB (.iface t x) = false := rfl
theorem w_b_fp : isB (.fptr cs) = false := rfl
theorem w_b_p : isB (.ptr q off) = false := rfl
theorem w_b_u : isB .undef = false := rfl
theorem w_b_b {T : TypeId} : isB (.bnil T) = true := rfl
theorem w_b_o {mu : Bool} : isB (.own sz mu es) = false := rfl
theorem w_c_b {T : TypeId} : cellsOf (.bnil T) = [.bnil T] := rfl
theorem w_c_p : cellsOf (.ptr q off) = [.ptr q off] := rfl
theorem w_c_u : cellsOf .undef = [.undef] := rfl
theorem w_s_p : solid (.ptr q off) = true := rfl
theorem w_f_b {T : TypeId} : frz (.bnil T) = some (.v (.pointer none)) := rfl
theorem w_f1_b {T : TypeId} : frz1 (.bnil T) = some (.v (.pointer none)) := rfl
theorem w_k_b {T : TypeId} : keys (.bnil T) = [] := rfl
theorem w_k1_b {T : TypeId} : keys1 (.bnil T) = [] := rfl
theorem w_o1_b {keep : List Nat} {T : TypeId} : ok1 keep (.bnil T) = true := rfl
theorem w_m_b {keep : List Nat} {T : TypeId} : msk keep (.bnil T) = .bnil T := rfl
theorem w_put_b {f : Nat} {l : List AV} {T : TypeId} : putT q i f l (.bnil T) = .bnil T := rfl
theorem w_s_fsl : solid (.fsl es) = true := rfl
theorem w_s_asl : solid (.asl q es) = true := rfl
theorem w_s_nil : solid .nilsl = true := rfl
theorem w_s_fn : solid (.fn f cs) = true := rfl
theorem w_s_if : solid (.iface t x) = true := rfl
theorem w_s_fp : solid (.fptr cs) = true := rfl
theorem w_f_v : frz (.v v) = some (.v v) := rfl
theorem w_f_agg : frz (.agg cs) = (frzL cs).bind fun l => some (.agg l) := rfl
theorem w_f_fsl : frz (.fsl es) = some (.fsl es) := rfl
theorem w_f_asl : frz (.asl q es) = some (.fsl es) := rfl
theorem w_f_nil : frz .nilsl = some (.fsl []) := rfl
theorem w_f_fn : frz (.fn f cs) = some (.fn f cs) := rfl
theorem w_f_if : frz (.iface t x) = some (.iface t x) := rfl
theorem w_f_fp : frz (.fptr cs) = some (.fptr cs) := rfl
theorem w_fl0 : frzL [] = some [] := rfl
theorem w_fl1 : frzL (x :: l) = (frz1 x).bind fun y => (frzL l).bind fun m => some (y :: m) := rfl
theorem w_f1_v : frz1 (.v v) = some (.v v) := rfl
theorem w_f1_fsl : frz1 (.fsl es) = some (.fsl es) := rfl
theorem w_f1_asl : frz1 (.asl q es) = some (.fsl es) := rfl
theorem w_f1_nil : frz1 .nilsl = some (.fsl []) := rfl
theorem w_f1_fn : frz1 (.fn f cs) = some (.fn f cs) := rfl
theorem w_f1_if : frz1 (.iface t x) = some (.iface t x) := rfl
theorem w_f1_fp : frz1 (.fptr cs) = some (.fptr cs) := rfl
theorem w_k_v : keys (.v v) = [] := rfl
theorem w_k_agg : keys (.agg cs) = cs.flatMap keys1 := rfl
theorem w_k_fsl : keys (.fsl es) = [] := rfl
theorem w_k_asl : keys (.asl q es) = [q] := rfl
theorem w_k_nil : keys .nilsl = [] := rfl
theorem w_k_fn : keys (.fn f cs) = [] := rfl
theorem w_k_if : keys (.iface t x) = [] := rfl
theorem w_k_tup : keys (.tup cs) = [] := rfl
theorem w_k_fp : keys (.fptr cs) = [] := rfl
theorem w_k_p : keys (.ptr q off) = [] := rfl
theorem w_k1_v : keys1 (.v v) = [] := rfl
theorem w_k1_fsl : keys1 (.fsl es) = [] := rfl
theorem w_k1_asl : keys1 (.asl q es) = [q] := rfl
theorem w_k1_nil : keys1 .nilsl = [] := rfl
theorem w_k1_fn : keys1 (.fn f cs) = [] := rfl
theorem w_k1_if : keys1 (.iface t x) = [] := rfl
theorem w_k1_fp : keys1 (.fptr cs) = [] := rfl
theorem w_imp_f : imp false d j x = (dis x, []) := rfl
theorem w_imp_t : imp true d j x = impU d j x := rfl
theorem w_dis_v : dis (.v v) = .v v := rfl
theorem w_dis_fsl : dis (.fsl es) = .fsl es := rfl
theorem w_dis_own {mu : Bool} : dis (.own sz mu es) = .fsl es := rfl
theorem w_dis_fn : dis (.fn f cs) = .fn f cs := rfl
theorem w_dis_if : dis (.iface t x) = .iface t x := rfl
theorem w_dis_agg : dis (.agg cs) = .agg (cs.map dis1) := rfl
theorem w_dis_tup : dis (.tup cs) = .tup (cs.map disA) := rfl
theorem w_disA_v : disA (.v v) = .v v := rfl
theorem w_disA_fsl : disA (.fsl es) = .fsl es := rfl
theorem w_disA_own {mu : Bool} : disA (.own sz mu es) = .fsl es := rfl
theorem w_disA_fn : disA (.fn f cs) = .fn f cs := rfl
theorem w_disA_if : disA (.iface t x) = .iface t x := rfl
theorem w_disA_agg : disA (.agg cs) = .agg (cs.map dis1) := rfl
theorem w_dis1_v : dis1 (.v v) = .v v := rfl
theorem w_dis1_fsl : dis1 (.fsl es) = .fsl es := rfl
theorem w_dis1_own {mu : Bool} : dis1 (.own sz mu es) = .fsl es := rfl
theorem w_dis1_fn : dis1 (.fn f cs) = .fn f cs := rfl
theorem w_dis1_if : dis1 (.iface t x) = .iface t x := rfl
theorem w_impU_v : impU d j (.v v) = (.v v, []) := rfl
theorem w_impU_own {mu : Bool} : impU d j (.own sz mu es) = (.asl (d, j) es, [((d, j), .tail es.length sz mu !mu)]) := rfl
theorem w_impU_fsl : impU d j (.fsl es) = (.fsl es, []) := rfl
theorem w_impU_agg : impU d j (.agg cs) = (.agg (impL d j cs).1, (impL d j cs).2) := rfl
theorem w_impU_tup : impU d j (.tup cs) = (.tup (impT d j cs).1, (impT d j cs).2) := rfl
theorem w_impL0 : impL d j [] = ([], []) := rfl
theorem w_impL1 : impL d j (x :: l) = ((imp1 d j x).1 :: (impL d (j + 1) l).1, (imp1 d j x).2 ++ (impL d (j + 1) l).2) := rfl
theorem w_impT0 : impT d j [] = ([], []) := rfl
theorem w_impT1 : impT d j (x :: l) = ((impA d j x).1 :: (impT d (j + 100) l).1, (impA d j x).2 ++ (impT d (j + 100) l).2) := rfl
theorem w_impA_v : impA d j (.v v) = (.v v, []) := rfl
theorem w_impA_own {mu : Bool} : impA d j (.own sz mu es) = (.asl (d, j) es, [((d, j), .tail es.length sz mu !mu)]) := rfl
theorem w_impA_fsl : impA d j (.fsl es) = (.fsl es, []) := rfl
theorem w_impA_agg : impA d j (.agg cs) = (.agg (impL d j cs).1, (impL d j cs).2) := rfl
theorem w_imp1_v : imp1 d j (.v v) = (.v v, []) := rfl
theorem w_imp1_own {mu : Bool} : imp1 d j (.own sz mu es) = (.asl (d, j) es, [((d, j), .tail es.length sz mu !mu)]) := rfl
theorem w_imp1_fsl : imp1 d j (.fsl es) = (.fsl es, []) := rfl
theorem w_imp1_fn : imp1 d j (.fn f cs) = (.fn f cs, []) := rfl
theorem w_r1 : Xr o [some x] = if (cellsOf x).length ≤ 100 then expA o (keys x) x else none := by
  simp only [Xr, seqR, Option.map_some, outF, List.all_cons, List.all_nil, Bool.and_true, decide_eq_true_eq, expT, allKeys, List.flatMap_cons, List.flatMap_nil, List.append_nil]
  split
  · cases expA o (keys x) x <;> rfl
  · rfl
theorem w_r2 : Xr o [some x, some y] = if (cellsOf x).length ≤ 100 ∧ (cellsOf y).length ≤ 100 then (expA o (keys x ++ keys y) x).bind fun a => (expA o (keys x ++ keys y) y).bind fun b => some (.tup [a, b]) else none := by
  simp only [Xr, seqR, Option.map_some, outF, List.all_cons, List.all_nil, Bool.and_true, Bool.and_eq_true, decide_eq_true_eq, expT, allKeys, List.flatMap_cons, List.flatMap_nil, List.append_nil]
  split
  · cases expA o (keys x ++ keys y) x with
    | none => rfl
    | some a => cases expA o (keys x ++ keys y) y <;> rfl
  · rfl
theorem w_r3 {z : AV} : Xr o [some x, some y, some z] = if (cellsOf x).length ≤ 100 ∧ (cellsOf y).length ≤ 100 ∧ (cellsOf z).length ≤ 100 then (expA o (keys x ++ (keys y ++ keys z)) x).bind fun a => (expA o (keys x ++ (keys y ++ keys z)) y).bind fun b => (expA o (keys x ++ (keys y ++ keys z)) z).bind fun c => some (.tup [a, b, c]) else none := by
  simp only [Xr, seqR, Option.map_some, outF, List.all_cons, List.all_nil, Bool.and_true, Bool.and_eq_true, decide_eq_true_eq, expT, allKeys, List.flatMap_cons, List.flatMap_nil, List.append_nil]
  split
  · cases expA o (keys x ++ (keys y ++ keys z)) x with
    | none => rfl
    | some a =>
      cases expA o (keys x ++ (keys y ++ keys z)) y with
      | none => rfl
      | some b => cases expA o (keys x ++ (keys y ++ keys z)) z <;> rfl
  · rfl
theorem w_r0 : Xr o [] = some (.tup []) := rfl
theorem w_cellR {g : Bool} : cellR o (.ptr q off) g n = (varO o q).bind fun cs => pack g n (cs.drop off) := by
  simp only [cellR, varO]
  cases getO o q with
  | none => rfl
  | some b => cases b <;> rfl
theorem w_ea_v {ks : List Key} : expA o ks (.v v) = some (.v v) := rfl
theorem w_ea_fsl {ks : List Key} : expA o ks (.fsl es) = some (.fsl es) := rfl
theorem w_ea_nil {ks : List Key} : expA o ks .nilsl = some (.fsl []) := rfl
theorem w_ea_fn {ks : List Key} : expA o ks (.fn f cs) = some (.fn f cs) := rfl
theorem w_ea_if {ks : List Key} : expA o ks (.iface t x) = some (.iface t x) := rfl
theorem w_ea_agg {ks : List Key} : expA o ks (.agg cs) = (expL o ks cs).map AV.agg := rfl
theorem w_ea_asl {ks : List Key} : expA o ks (.asl q es) = exp1 o ks (.asl q es) := rfl
theorem w_el0 {ks : List Key} : expL o ks [] = some [] := rfl
theorem w_el1 {ks : List Key} : expL o ks (x :: l) = (exp1 o ks x).bind fun y => (expL o ks l).bind fun m => some (y :: m) := rfl
theorem w_e1_v {ks : List Key} : exp1 o ks (.v v) = some (.v v) := rfl
theorem w_e1_fsl {ks : List Key} : exp1 o ks (.fsl es) = some (.fsl es) := rfl
theorem w_e1_nil {ks : List Key} : exp1 o ks .nilsl = some (.fsl []) := rfl
theorem w_e1_fn {ks : List Key} : exp1 o ks (.fn f cs) = some (.fn f cs) := rfl
theorem w_e1_if {ks : List Key} : exp1 o ks (.iface t x) = some (.iface t x) := rfl
def ownV (c : Nat) (es : List (List AV)) : Option Ob → Option AV
  | some (.tail n sz _ shr) => some (if n = es.length ∧ c = 1 then .own sz (!shr) es else .fsl es)
  | _ => none
theorem w_e1_asl {ks : List Key} : exp1 o ks (.asl q es) = ownV (ks.count q) es (getO o q) := by
  simp only [exp1, ownV]
  cases getO o q with
  | none => rfl
  | some b => cases b <;> rfl
theorem w_ownV {c : Nat} {mu shr : Bool} : ownV c es (some (.tail n sz mu shr)) = some (if n = es.length ∧ c = 1 then .own sz (!shr) es else .fsl es) := rfl
variable {ob : Ob} {os : Objs} {ks : List Key} {mu shr : Bool}
theorem w_g0 : getO [] q = none := rfl
theorem w_g1 : getO ((q, ob) :: os) q' = if q = q' then some ob else getO os q' := rfl
theorem w_set0 : setO [] q ob = [(q, ob)] := rfl
theorem w_set1 {ob' : Ob} : setO ((q, ob') :: os) q' ob = if q = q' then (q, ob) :: os else (q, ob') :: setO os q' ob := rfl
theorem w_co0 : countO d [] = 0 := rfl
theorem w_co1 : countO d ((q, ob) :: os) = if q.1 = d then countO d os + 1 else countO d os := rfl
theorem w_fr0 : freshO o [] = true := rfl
theorem w_fr1 : freshO o ((q, ob) :: os) = ((getO o q).isNone && freshO (o ++ [(q, ob)]) os) := rfl
theorem w_add0 : addO o [] = o := rfl
theorem w_add1 : addO o ((q, ob) :: os) = o ++ (q, ob) :: os := rfl
theorem w_seal0 : sealO o [] = o := rfl
theorem w_seal1 : sealO o (q :: ks) = sealO (seal1 o q) ks := rfl
def sealV (o : Objs) (q : Key) : Option Ob → Objs
  | some x => setO o q (sealObj x)
  | none => o
theorem w_seal : seal1 o q = sealV o q (getO o q) := by
  unfold seal1 sealV
  cases getO o q <;> rfl
theorem w_sealV0 : sealV o q none = o := rfl
theorem w_sealV1 : sealV o q (some ob) = setO o q (sealObj ob) := rfl
theorem w_sealO1 : sealObj (.tail n sz mu shr) = .tail n sz false true := rfl
theorem w_sealO2 : sealObj (.var cs b) = .var cs true := rfl
theorem w_finO : finO o os ks = sealO (addO o os) ks := rfl
theorem w_new {k : AV → Objs → Out} {u : Tag k} : newK o os ks x k u = ifK (freshO o os) (fun _ => k x (finO o os ks)) () := rfl
theorem w_newP {k : AV → Objs → List Key → Out} {u : Tag k} : newP d o os ks x k u = ifK (freshO o os && os.all (fun p => p.1.1 == d)) (fun _ => k x os ks) () := rfl
def varV : Option Ob → Option (List AV)
  | some (.var cs _) => some cs
  | _ => none
theorem w_varO : varO o q = varV (getO o q) := by
  unfold varO varV
  cases getO o q with
  | none => rfl
  | some b => cases b <;> rfl
theorem w_varV : varV (some (.var cs b)) = some cs := rfl
def varW : Option Ob → Option (List AV)
  | some (.var cs false) => some cs
  | _ => none
theorem w_varF : varF o q = varW (getO o q) := by
  unfold varF varW
  cases getO o q with
  | none => rfl
  | some b =>
    cases b with
    | var cs s => cases s <;> rfl
    | _ => rfl
theorem w_varW : varW (some (.var cs false)) = some cs := rfl
def tailW : Option Ob → Bool
  | some (.tail _ _ true _) => true
  | _ => false
theorem w_tailT : tailT o q = tailW (getO o q) := by
  unfold tailT tailW
  cases getO o q with
  | none => rfl
  | some b =>
    cases b with
    | tail n sz mu shr => cases mu <;> rfl
    | _ => rfl
theorem w_tailW : tailW (some (.tail n sz true shr)) = true := rfl
theorem w_ad0 {z : List Sz} : adopt d j [] z = ([], []) := by cases z <;> rfl
theorem w_ad_v {i : Sz} {z : List Sz} : adopt d j (.v v :: l) (i :: z) = (.v v :: (adopt d (j + 1) l z).1, (adopt d (j + 1) l z).2) := rfl
theorem w_ad_fsl {i : Sz} {z : List Sz} : adopt d j (.fsl es :: l) (i :: z) = (.fsl es :: (adopt d (j + 1) l z).1, (adopt d (j + 1) l z).2) := rfl
theorem w_ad_asl {i : Sz} {z : List Sz} : adopt d j (.asl q es :: l) (i :: z) = (.asl q es :: (adopt d (j + 1) l z).1, (adopt d (j + 1) l z).2) := rfl
theorem w_ad_fn {i : Sz} {z : List Sz} : adopt d j (.fn f cs :: l) (i :: z) = (.fn f cs :: (adopt d (j + 1) l z).1, (adopt d (j + 1) l z).2) := rfl
theorem w_ad_if {i : Sz} {z : List Sz} : adopt d j (.iface t x :: l) (i :: z) = (.iface t x :: (adopt d (j + 1) l z).1, (adopt d (j + 1) l z).2) := rfl
theorem w_ad_nil {i : Sz} {z : List Sz} : adopt d j (.nilsl :: l) (i :: z) = (.asl (d, j) [] :: (adopt d (j + 1) l z).1, ((d, j), .tail 0 i false false) :: (adopt d (j + 1) l z).2) := rfl
variable {keep : List Nat}
theorem w_m_v : msk keep (.v v) = .v v := rfl
theorem w_m_fsl : msk keep (.fsl es) = .fsl es := rfl
theorem w_m_nil : msk keep .nilsl = .nilsl := rfl
theorem w_m_fn : msk keep (.fn f cs) = .fn f cs := rfl
theorem w_m_if : msk keep (.iface t x) = .iface t x := rfl
theorem w_m_fp : msk keep (.fptr cs) = .fptr cs := rfl
theorem w_m_u : msk keep .undef = .undef := rfl
theorem w_m_asl : msk keep (.asl q es) = if inK keep q.1 = true then .asl q es else .undef := rfl
theorem w_m_p : msk keep (.ptr q off) = if inK keep q.1 = true then .ptr q off else .undef := rfl
theorem w_m_agg : msk keep (.agg cs) = if cs.all (ok1 keep) = true then .agg cs else .undef := rfl
theorem w_m_tup : msk keep (.tup cs) = if cs.all (okA keep) = true then .tup cs else .undef := rfl
theorem w_o1_v : ok1 keep (.v v) = true := rfl
theorem w_o1_fsl : ok1 keep (.fsl es) = true := rfl
theorem w_o1_nil : ok1 keep .nilsl = true := rfl
theorem w_o1_fn : ok1 keep (.fn f cs) = true := rfl
theorem w_o1_if : ok1 keep (.iface t x) = true := rfl
theorem w_o1_fp : ok1 keep (.fptr cs) = true := rfl
theorem w_o1_u : ok1 keep .undef = true := rfl
theorem w_o1_asl : ok1 keep (.asl q es) = inK keep q.1 := rfl
theorem w_o1_p : ok1 keep (.ptr q off) = inK keep q.1 := rfl
theorem w_oA_v : okA keep (.v v) = true := rfl
theorem w_oA_fsl : okA keep (.fsl es) = true := rfl
theorem w_oA_agg : okA keep (.agg cs) = cs.all (ok1 keep) := rfl
theorem w_mo0 : maskO keep [] = [] := rfl
def maskB (keep : List Nat) : Ob → Ob
  | .var cs s => .var (cs.map fun c => if ok1 keep c then c else .undef) s
  | x => x
theorem w_mo1 : maskO keep ((q, ob) :: os) = if inK keep q.1 = true then (q, maskB keep ob) :: maskO keep os else maskO keep os := by
  cases ob <;> rfl
theorem w_mb_t : maskB keep (.tail n sz mu shr) = .tail n sz mu shr := rfl
theorem w_mb_v : maskB keep (.var cs b) = .var (cs.map fun c => if ok1 keep c then c else .undef) b := rfl
theorem w_el_fsl : elemsOf (.fsl es) = some es := rfl
theorem w_el_asl : elemsOf (.asl q es) = some es := rfl
theorem w_el_nil : elemsOf .nilsl = some [] := rfl
theorem w_src_f : srcOf false m x = elemsOf x := rfl
theorem w_src_s : srcOf true 1 (.v (.string s)) = some (s.toList.map fun (b : UInt8) => [AV.v (.int .u8 (b.toNat : Int))]) := rfl
def appA (o : Objs) (q : Key) (es ys : List (List AV)) (sz : Sz) (m : Nat) : Option Ob → Option (AV × Objs)
  | some (.tail n s _ shr) => bif decide (n = es.length) && decide (s = sz) && decide ((es.length + ys.length) * m ≤ 70368744177664) && lenOk sz ys then some (.asl q (es ++ ys), setO o q (.tail (n + ys.length) s false shr)) else none
  | _ => none
theorem w_app_a {str : Bool} {y : AV} : appV o d str sz m (.asl q es) y = (srcOf str sz y).bind fun ys => appA o q es ys sz m (getO o q) := by
  unfold appV appA
  cases srcOf str sz y with
  | none => rfl
  | some ys =>
    simp only [Option.bind_some]
    all_goals (cases getO o q with
      | none => rfl
      | some b => cases b <;> rfl)
theorem w_appA {ys : List (List AV)} {s' : Sz} : appA o q es ys sz m (some (.tail n s' mu shr)) = bif decide (n = es.length) && decide (s' = sz) && decide ((es.length + ys.length) * m ≤ 70368744177664) && lenOk sz ys then some (.asl q (es ++ ys), setO o q (.tail (n + ys.length) s' false shr)) else none := rfl
theorem w_app_n {str : Bool} {y : AV} : appV o d str sz m .nilsl y = (srcOf str sz y).bind fun ys => bif decide (ys.length * m ≤ 70368744177664) && lenOk sz ys && (getO o (d, countO d o)).isNone then some (.asl (d, countO d o) ys, o ++ [((d, countO d o), Ob.tail ys.length sz false false)]) else none := by
  unfold appV
  cases srcOf str sz y <;> rfl
theorem w_nums0 : numsOf [] = some [] := rfl
theorem w_nums1 : numsOf ([.v (.int .u8 a)] :: es) = (numsOf es).map fun m => a :: m := rfl
theorem w_bnd {N : Nat} : bnd N (some (.v (.int kd a))) = if 0 ≤ a ∧ a ≤ (N : Int) then some a.toNat else none := rfl
theorem w_cap0 : capK o [] = some ([], []) := rfl
def capV (o : Objs) (x : AV) : Option (AV × List Key) := capOf noG [] (getO o) (.c x)
theorem w_cap1 {ps : List CX} : capK o (.c x :: ps) = (capV o x).bind fun p => (capK o ps).bind fun q => some (p.1 :: q.1, p.2 ++ q.2) := rfl
theorem w_capV_p : capV o (.ptr q 0) = (varV (getO o q)).bind fun cs => (frzL cs).map fun l => (.fptr l, q :: cs.flatMap keys1) := by
  unfold capV capOf
  simp only [ev]
  cases getO o q with
  | none => rfl
  | some b => cases b <;> rfl
theorem w_capV_fsl : capV o (.fsl es) = some (.fsl es, []) := rfl
theorem w_capV_v : capV o (.v v) = some (.v v, []) := rfl
theorem w_capV_fn : capV o (.fn f cs) = some (.fn f cs, []) := rfl
theorem w_capV_fp : capV o (.fptr cs) = some (.fptr cs, []) := rfl
theorem w_eqc0 : eqCells [] [] [] = some true := rfl
theorem w_eqc1 {cs' : List AV} {x' : AV} {ns : List Nat} : eqCells (n :: ns) (x :: cs) (x' :: cs') = (eqCell n x x').bind fun b => (eqCells ns cs cs').bind fun c => some (b && c) := rfl
theorem w_eq_i {c : Int} : eqCell 0 (.v (.int kd a)) (.v (.int kd c)) = some (decide (a = c)) := by simp [eqCell]; rfl
theorem w_eq_b {c : Bool} : eqCell 1 (.v (.bool b)) (.v (.bool c)) = some (b == c) := rfl
theorem w_eq_s {c : ByteArray} : eqCell 2 (.v (.string s)) (.v (.string c)) = some (decide (s = c)) := by simp only [eqCell, eqS]
theorem w_put_v {f : Nat} : putT q i f l (.v v) = .v v := rfl
theorem w_put_fsl {f : Nat} : putT q i f l (.fsl es) = .fsl es := rfl
theorem w_put_nil {f : Nat} : putT q i f l .nilsl = .nilsl := rfl
theorem w_put_fn {f : Nat} {g : FuncId} : putT q i f l (.fn g cs) = .fn g cs := rfl
theorem w_put_p {f off : Nat} : putT q i f l (.ptr q' off) = .ptr q' off := rfl
theorem w_put_fp {f : Nat} : putT q i f l (.fptr cs) = .fptr cs := rfl
theorem w_put_if {f : Nat} : putT q i f l (.iface t x) = .iface t x := rfl
theorem w_put_u {f : Nat} : putT q i f l .undef = .undef := rfl
theorem w_put_asl {f : Nat} : putT q i f l (.asl q' es) = put1 q i f l (.asl q' es) := rfl
theorem w_put_e {f i' f' : Nat} : putT q i f l (.eptr q' i' f' cs) = if q' = q then .undef else .eptr q' i' f' cs := rfl
theorem w_put_agg {f : Nat} : putT q i f l (.agg cs) = .agg (cs.map (put1 q i f l)) := rfl
theorem w_put_tup {f : Nat} : putT q i f l (.tup cs) = .tup (cs.map (putA q i f l)) := rfl
theorem w_put1_v {f : Nat} : put1 q i f l (.v v) = .v v := rfl
theorem w_put1_fsl {f : Nat} : put1 q i f l (.fsl es) = .fsl es := rfl
theorem w_put1_fn {f : Nat} {g : FuncId} : put1 q i f l (.fn g cs) = .fn g cs := rfl
theorem w_put1_if {f : Nat} : put1 q i f l (.iface t x) = .iface t x := rfl
def putE (q : Key) (es : List (List AV)) (i f : Nat) (l : List AV) : Option (List AV) → AV
  | some e => .asl q (es.set i (splice e f l))
  | none => .undef
theorem w_put1_asl {f : Nat} : put1 q i f l (.asl q' es) = if q' = q then putE q' es i f l es[i]? else .asl q' es := by
  simp only [put1, putE]
  cases es[i]? <;> rfl
theorem w_putE {f : Nat} {e : List AV} : putE q es i f l (some e) = .asl q (es.set i (splice e f l)) := rfl
theorem w_putO_t {f : Nat} : putO q i f l (.tail n sz mu shr) = .tail n sz mu shr := rfl
theorem w_putO_v {f : Nat} : putO q i f l (.var cs b) = .var (cs.map (put1 q i f l)) b := rfl
theorem w_lenOk0 : lenOk m [] = true := rfl
theorem w_lenOk1 {e : List AV} : lenOk m (e :: es) = (decide (e.length = m) && lenOk m es) := by
  simp only [lenOk, List.all_cons]; congr 1
theorem w_inK {l : List Nat} : inK l n = (l.contains n || decide (1000000 ≤ n)) := rfl
def apA (lens : List (Key × Nat)) (q : Key) (es ys : List (List AV)) (h : Nat) (sz : Sz) (m : Nat) : Option Ob → Option (AV × Key × Nat)
  | some (.tail n s _ _) => bif decide (q.1 = h) && decide ((lenOf lens q).getD n = es.length) && decide (s = sz) && decide ((es.length + ys.length) * m ≤ 70368744177664) && lenOk sz ys then some (.asl q (es ++ ys), q, es.length + ys.length) else none
  | _ => none
theorem w_apd {lens : List (Key × Nat)} {h : Nat} {str : Bool} {y : AV} : apdV o lens h str sz m (.asl q es) y = (srcOf str sz y).bind fun ys => apA lens q es ys h sz m (getO o q) := by
  unfold apdV apA
  cases srcOf str sz y with
  | none => rfl
  | some ys =>
    simp only [Option.bind_some]
    cases getO o q with
    | none => rfl
    | some b =>
      cases b with
      | tail n s mu shr =>
        simp only [cond_eq_ite, Bool.and_eq_true, decide_eq_true_eq, and_assoc]
      | _ => rfl
theorem w_apA {lens : List (Key × Nat)} {h : Nat} {ys : List (List AV)} {s' : Sz} : apA lens q es ys h sz m (some (.tail n s' mu shr)) = bif decide (q.1 = h) && decide ((lenOf lens q).getD n = es.length) && decide (s' = sz) && decide ((es.length + ys.length) * m ≤ 70368744177664) && lenOk sz ys then some (.asl q (es ++ ys), q, es.length + ys.length) else none := rfl
theorem w_lenOf0 : lenOf [] q = none := rfl
theorem w_lenOf1 {lens : List (Key × Nat)} : lenOf ((q', n) :: lens) q = if q' = q then some n else lenOf lens q := rfl
theorem w_sl0 : setLenO [] q n = [] := rfl
theorem w_sl1 : setLenO ((q', ob) :: os) q n = (q', if q' = q then setLen n ob else ob) :: setLenO os q n := rfl
theorem w_slt {n' : Nat} : setLen n' (.tail n sz mu shr) = .tail n' sz false shr := rfl
theorem w_slv : setLen n (.var cs b) = .var cs b := rfl
theorem w_gD_s {a d : Nat} : (some a).getD d = a := rfl
theorem w_gD_n {d : Nat} : (none : Option Nat).getD d = d := rfl
theorem w_ite_t {α : Type} {x y : α} : (if True then x else y) = x := if_pos trivial
theorem w_ite_f {α : Type} {x y : α} : (if False then x else y) = y := if_neg (fun h => h)
end
theorem w_szn {n : Nat} : Sz.n (no_index (OfNat.ofNat n)) = OfNat.ofNat n := rfl
theorem w_tzn {n : Nat} {T : TypeId} : (tz n T).n = n := rfl
theorem w_szof {n : Nat} : Sz.of (no_index (OfNat.ofNat n)) = OfNat.ofNat n := rfl
set_option maxRecDepth 100000 in
theorem Y : type_of% (And.intro @w_b_v <| And.intro @w_b_fsl <| And.intro @w_b_asl <| And.intro @w_b_nil <| And.intro @w_b_fn <| And.intro @w_b_if <| And.intro @w_b_fp <| And.intro @w_b_p <| And.intro @w_b_u <| And.intro @w_b_b <| And.intro @w_b_o <| And.intro @w_c_b <| And.intro @w_c_p <| And.intro @w_c_u <| And.intro @w_s_p <| And.intro @w_f_b <| And.intro @w_f1_b <| And.intro @w_k_b <| And.intro @w_k1_b <| And.intro @w_o1_b <| And.intro @w_m_b <| And.intro @w_put_b <| And.intro @w_s_agc <| And.intro @w_inK <| And.intro @w_apd <| And.intro @w_apA <| And.intro @w_lenOf0 <| And.intro @w_lenOf1 <| And.intro @w_sl0 <| And.intro @w_sl1 <| And.intro @w_slt <| And.intro @w_slv <| And.intro @w_gD_s <| And.intro @w_gD_n <| And.intro @w_packT <| And.intro @w_packF <| And.intro @w_splice <| And.intro @w_fill0 <| And.intro @w_fill1 <| And.intro @w_fillE0 <| And.intro @w_fillE1 <| And.intro @w_evc <| And.intro @w_fz0 <| And.intro @w_fz1 <| And.intro @w_args0 <| And.intro @w_args1 <| And.intro @w_c_v <| And.intro @w_c_agg <| And.intro @w_c_fsl <| And.intro @w_c_asl <| And.intro @w_c_nil <| And.intro @w_c_fn <| And.intro @w_c_if <| And.intro @w_c_tup <| And.intro @w_c_fp <| And.intro @w_s_v <| And.intro @w_s_agg <| And.intro @w_s_fsl <| And.intro @w_s_asl <| And.intro @w_s_nil <| And.intro @w_s_fn <| And.intro @w_s_if <| And.intro @w_s_fp <| And.intro @w_f_v <| And.intro @w_f_agg <| And.intro @w_f_fsl <| And.intro @w_f_asl <| And.intro @w_f_nil <| And.intro @w_f_fn <| And.intro @w_f_if <| And.intro @w_f_fp <| And.intro @w_fl0 <| And.intro @w_fl1 <| And.intro @w_f1_v <| And.intro @w_f1_fsl <| And.intro @w_f1_asl <| And.intro @w_f1_nil <| And.intro @w_f1_fn <| And.intro @w_f1_if <| And.intro @w_f1_fp <| And.intro @w_k_v <| And.intro @w_k_agg <| And.intro @w_k_fsl <| And.intro @w_k_asl <| And.intro @w_k_nil <| And.intro @w_k_fn <| And.intro @w_k_if <| And.intro @w_k_tup <| And.intro @w_k_fp <| And.intro @w_k_p <| And.intro @w_k1_v <| And.intro @w_k1_fsl <| And.intro @w_k1_asl <| And.intro @w_k1_nil <| And.intro @w_k1_fn <| And.intro @w_k1_if <| And.intro @w_k1_fp <| And.intro @w_imp_f <| And.intro @w_imp_t <| And.intro @w_dis_v <| And.intro @w_dis_fsl <| And.intro @w_dis_own <| And.intro @w_dis_fn <| And.intro @w_dis_if <| And.intro @w_dis_agg <| And.intro @w_dis_tup <| And.intro @w_disA_v <| And.intro @w_disA_fsl <| And.intro @w_disA_own <| And.intro @w_disA_fn <| And.intro @w_disA_if <| And.intro @w_disA_agg <| And.intro @w_dis1_v <| And.intro @w_dis1_fsl <| And.intro @w_dis1_own <| And.intro @w_dis1_fn <| And.intro @w_dis1_if <| And.intro @w_impU_v <| And.intro @w_impU_own <| And.intro @w_impU_fsl <| And.intro @w_impU_agg <| And.intro @w_impU_tup <| And.intro @w_impL0 <| And.intro @w_impL1 <| And.intro @w_impT0 <| And.intro @w_impT1 <| And.intro @w_impA_v <| And.intro @w_impA_own <| And.intro @w_impA_fsl <| And.intro @w_impA_agg <| And.intro @w_imp1_v <| And.intro @w_imp1_own <| And.intro @w_imp1_fsl <| And.intro @w_imp1_fn <| And.intro @w_r1 <| And.intro @w_r2 <| And.intro @w_r3 <| And.intro @w_r0 <| And.intro @w_cellR <| And.intro @w_ea_v <| And.intro @w_ea_fsl <| And.intro @w_ea_nil <| And.intro @w_ea_fn <| And.intro @w_ea_if <| And.intro @w_ea_agg <| And.intro @w_ea_asl <| And.intro @w_el0 <| And.intro @w_el1 <| And.intro @w_e1_v <| And.intro @w_e1_fsl <| And.intro @w_e1_nil <| And.intro @w_e1_fn <| And.intro @w_e1_if <| And.intro @w_e1_asl <| And.intro @w_ownV <| And.intro @w_g0 <| And.intro @w_g1 <| And.intro @w_set0 <| And.intro @w_set1 <| And.intro @w_co0 <| And.intro @w_co1 <| And.intro @w_fr0 <| And.intro @w_fr1 <| And.intro @w_add0 <| And.intro @w_add1 <| And.intro @w_seal0 <| And.intro @w_seal1 <| And.intro @w_seal <| And.intro @w_sealV0 <| And.intro @w_sealV1 <| And.intro @w_sealO1 <| And.intro @w_sealO2 <| And.intro @w_finO <| And.intro @w_new <| And.intro @w_newP <| And.intro @w_varO <| And.intro @w_varV <| And.intro @w_varF <| And.intro @w_varW <| And.intro @w_tailT <| And.intro @w_tailW <| And.intro @w_ad0 <| And.intro @w_ad_v <| And.intro @w_ad_fsl <| And.intro @w_ad_asl <| And.intro @w_ad_fn <| And.intro @w_ad_if <| And.intro @w_ad_nil <| And.intro @w_m_v <| And.intro @w_m_fsl <| And.intro @w_m_nil <| And.intro @w_m_fn <| And.intro @w_m_if <| And.intro @w_m_fp <| And.intro @w_m_u <| And.intro @w_m_asl <| And.intro @w_m_p <| And.intro @w_m_agg <| And.intro @w_m_tup <| And.intro @w_o1_v <| And.intro @w_o1_fsl <| And.intro @w_o1_nil <| And.intro @w_o1_fn <| And.intro @w_o1_if <| And.intro @w_o1_fp <| And.intro @w_o1_u <| And.intro @w_o1_asl <| And.intro @w_o1_p <| And.intro @w_oA_v <| And.intro @w_oA_fsl <| And.intro @w_oA_agg <| And.intro @w_mo0 <| And.intro @w_mo1 <| And.intro @w_mb_t <| And.intro @w_mb_v <| And.intro @w_el_fsl <| And.intro @w_el_asl <| And.intro @w_el_nil <| And.intro @w_src_f <| And.intro @w_src_s <| And.intro @w_app_a <| And.intro @w_appA <| And.intro @w_app_n <| And.intro @w_nums0 <| And.intro @w_nums1 <| And.intro @w_bnd <| And.intro @w_cap0 <| And.intro @w_cap1 <| And.intro @w_capV_p <| And.intro @w_capV_fsl <| And.intro @w_capV_v <| And.intro @w_capV_fn <| And.intro @w_capV_fp <| And.intro @w_eqc0 <| And.intro @w_eqc1 <| And.intro @w_eq_i <| And.intro @w_eq_b <| And.intro @w_eq_s <| And.intro @w_put_v <| And.intro @w_put_fsl <| And.intro @w_put_nil <| And.intro @w_put_fn <| And.intro @w_put_p <| And.intro @w_put_fp <| And.intro @w_put_if <| And.intro @w_put_u <| And.intro @w_put_asl <| And.intro @w_put_e <| And.intro @w_put_agg <| And.intro @w_put_tup <| And.intro @w_put1_v <| And.intro @w_put1_fsl <| And.intro @w_put1_fn <| And.intro @w_put1_if <| And.intro @w_put1_asl <| And.intro @w_putE <| And.intro @w_putO_t <| And.intro @w_putO_v <| And.intro @w_lenOk0 <| And.intro @w_lenOk1 <| And.intro @w_ite_t <| And.intro @w_szn <| And.intro @w_tzn <| And.intro @w_szof <| @w_ite_f) := And.intro @w_b_v <| And.intro @w_b_fsl <| And.intro @w_b_asl <| And.intro @w_b_nil <| And.intro @w_b_fn <| And.intro @w_b_if <| And.intro @w_b_fp <| And.intro @w_b_p <| And.intro @w_b_u <| And.intro @w_b_b <| And.intro @w_b_o <| And.intro @w_c_b <| And.intro @w_c_p <| And.intro @w_c_u <| And.intro @w_s_p <| And.intro @w_f_b <| And.intro @w_f1_b <| And.intro @w_k_b <| And.intro @w_k1_b <| And.intro @w_o1_b <| And.intro @w_m_b <| And.intro @w_put_b <| And.intro @w_s_agc <| And.intro @w_inK <| And.intro @w_apd <| And.intro @w_apA <| And.intro @w_lenOf0 <| And.intro @w_lenOf1 <| And.intro @w_sl0 <| And.intro @w_sl1 <| And.intro @w_slt <| And.intro @w_slv <| And.intro @w_gD_s <| And.intro @w_gD_n <| And.intro @w_packT <| And.intro @w_packF <| And.intro @w_splice <| And.intro @w_fill0 <| And.intro @w_fill1 <| And.intro @w_fillE0 <| And.intro @w_fillE1 <| And.intro @w_evc <| And.intro @w_fz0 <| And.intro @w_fz1 <| And.intro @w_args0 <| And.intro @w_args1 <| And.intro @w_c_v <| And.intro @w_c_agg <| And.intro @w_c_fsl <| And.intro @w_c_asl <| And.intro @w_c_nil <| And.intro @w_c_fn <| And.intro @w_c_if <| And.intro @w_c_tup <| And.intro @w_c_fp <| And.intro @w_s_v <| And.intro @w_s_agg <| And.intro @w_s_fsl <| And.intro @w_s_asl <| And.intro @w_s_nil <| And.intro @w_s_fn <| And.intro @w_s_if <| And.intro @w_s_fp <| And.intro @w_f_v <| And.intro @w_f_agg <| And.intro @w_f_fsl <| And.intro @w_f_asl <| And.intro @w_f_nil <| And.intro @w_f_fn <| And.intro @w_f_if <| And.intro @w_f_fp <| And.intro @w_fl0 <| And.intro @w_fl1 <| And.intro @w_f1_v <| And.intro @w_f1_fsl <| And.intro @w_f1_asl <| And.intro @w_f1_nil <| And.intro @w_f1_fn <| And.intro @w_f1_if <| And.intro @w_f1_fp <| And.intro @w_k_v <| And.intro @w_k_agg <| And.intro @w_k_fsl <| And.intro @w_k_asl <| And.intro @w_k_nil <| And.intro @w_k_fn <| And.intro @w_k_if <| And.intro @w_k_tup <| And.intro @w_k_fp <| And.intro @w_k_p <| And.intro @w_k1_v <| And.intro @w_k1_fsl <| And.intro @w_k1_asl <| And.intro @w_k1_nil <| And.intro @w_k1_fn <| And.intro @w_k1_if <| And.intro @w_k1_fp <| And.intro @w_imp_f <| And.intro @w_imp_t <| And.intro @w_dis_v <| And.intro @w_dis_fsl <| And.intro @w_dis_own <| And.intro @w_dis_fn <| And.intro @w_dis_if <| And.intro @w_dis_agg <| And.intro @w_dis_tup <| And.intro @w_disA_v <| And.intro @w_disA_fsl <| And.intro @w_disA_own <| And.intro @w_disA_fn <| And.intro @w_disA_if <| And.intro @w_disA_agg <| And.intro @w_dis1_v <| And.intro @w_dis1_fsl <| And.intro @w_dis1_own <| And.intro @w_dis1_fn <| And.intro @w_dis1_if <| And.intro @w_impU_v <| And.intro @w_impU_own <| And.intro @w_impU_fsl <| And.intro @w_impU_agg <| And.intro @w_impU_tup <| And.intro @w_impL0 <| And.intro @w_impL1 <| And.intro @w_impT0 <| And.intro @w_impT1 <| And.intro @w_impA_v <| And.intro @w_impA_own <| And.intro @w_impA_fsl <| And.intro @w_impA_agg <| And.intro @w_imp1_v <| And.intro @w_imp1_own <| And.intro @w_imp1_fsl <| And.intro @w_imp1_fn <| And.intro @w_r1 <| And.intro @w_r2 <| And.intro @w_r3 <| And.intro @w_r0 <| And.intro @w_cellR <| And.intro @w_ea_v <| And.intro @w_ea_fsl <| And.intro @w_ea_nil <| And.intro @w_ea_fn <| And.intro @w_ea_if <| And.intro @w_ea_agg <| And.intro @w_ea_asl <| And.intro @w_el0 <| And.intro @w_el1 <| And.intro @w_e1_v <| And.intro @w_e1_fsl <| And.intro @w_e1_nil <| And.intro @w_e1_fn <| And.intro @w_e1_if <| And.intro @w_e1_asl <| And.intro @w_ownV <| And.intro @w_g0 <| And.intro @w_g1 <| And.intro @w_set0 <| And.intro @w_set1 <| And.intro @w_co0 <| And.intro @w_co1 <| And.intro @w_fr0 <| And.intro @w_fr1 <| And.intro @w_add0 <| And.intro @w_add1 <| And.intro @w_seal0 <| And.intro @w_seal1 <| And.intro @w_seal <| And.intro @w_sealV0 <| And.intro @w_sealV1 <| And.intro @w_sealO1 <| And.intro @w_sealO2 <| And.intro @w_finO <| And.intro @w_new <| And.intro @w_newP <| And.intro @w_varO <| And.intro @w_varV <| And.intro @w_varF <| And.intro @w_varW <| And.intro @w_tailT <| And.intro @w_tailW <| And.intro @w_ad0 <| And.intro @w_ad_v <| And.intro @w_ad_fsl <| And.intro @w_ad_asl <| And.intro @w_ad_fn <| And.intro @w_ad_if <| And.intro @w_ad_nil <| And.intro @w_m_v <| And.intro @w_m_fsl <| And.intro @w_m_nil <| And.intro @w_m_fn <| And.intro @w_m_if <| And.intro @w_m_fp <| And.intro @w_m_u <| And.intro @w_m_asl <| And.intro @w_m_p <| And.intro @w_m_agg <| And.intro @w_m_tup <| And.intro @w_o1_v <| And.intro @w_o1_fsl <| And.intro @w_o1_nil <| And.intro @w_o1_fn <| And.intro @w_o1_if <| And.intro @w_o1_fp <| And.intro @w_o1_u <| And.intro @w_o1_asl <| And.intro @w_o1_p <| And.intro @w_oA_v <| And.intro @w_oA_fsl <| And.intro @w_oA_agg <| And.intro @w_mo0 <| And.intro @w_mo1 <| And.intro @w_mb_t <| And.intro @w_mb_v <| And.intro @w_el_fsl <| And.intro @w_el_asl <| And.intro @w_el_nil <| And.intro @w_src_f <| And.intro @w_src_s <| And.intro @w_app_a <| And.intro @w_appA <| And.intro @w_app_n <| And.intro @w_nums0 <| And.intro @w_nums1 <| And.intro @w_bnd <| And.intro @w_cap0 <| And.intro @w_cap1 <| And.intro @w_capV_p <| And.intro @w_capV_fsl <| And.intro @w_capV_v <| And.intro @w_capV_fn <| And.intro @w_capV_fp <| And.intro @w_eqc0 <| And.intro @w_eqc1 <| And.intro @w_eq_i <| And.intro @w_eq_b <| And.intro @w_eq_s <| And.intro @w_put_v <| And.intro @w_put_fsl <| And.intro @w_put_nil <| And.intro @w_put_fn <| And.intro @w_put_p <| And.intro @w_put_fp <| And.intro @w_put_if <| And.intro @w_put_u <| And.intro @w_put_asl <| And.intro @w_put_e <| And.intro @w_put_agg <| And.intro @w_put_tup <| And.intro @w_put1_v <| And.intro @w_put1_fsl <| And.intro @w_put1_fn <| And.intro @w_put1_if <| And.intro @w_put1_asl <| And.intro @w_putE <| And.intro @w_putO_t <| And.intro @w_putO_v <| And.intro @w_lenOk0 <| And.intro @w_lenOk1 <| And.intro @w_ite_t <| And.intro @w_szn <| And.intro @w_tzn <| And.intro @w_szof <| @w_ite_f
theorem Z : type_of% (And.intro @List.length_cons.{0} <| And.intro @List.length_nil.{0} <| And.intro @List.take_succ_cons.{0} <| And.intro @List.take_zero.{0} <| And.intro @List.take_nil.{0} <| And.intro @List.drop_succ_cons.{0} <| And.intro @List.drop_zero.{0} <| And.intro @List.drop_nil.{0} <| And.intro @List.cons_append.{0} <| And.intro @List.nil_append.{0} <| And.intro @List.append_nil.{0} <| And.intro @List.map_cons.{0, 0} <| And.intro @List.map_nil.{0, 0} <| And.intro @List.flatMap_cons.{0, 0} <| And.intro @List.flatMap_nil.{0, 0} <| And.intro @Option.bind_some.{0, 0} <| And.intro @Option.map_some.{0, 0} <| And.intro @Prod.mk.injEq.{0, 0} <| And.intro @and_self <| And.intro @and_true <| And.intro @true_and <| And.intro @Bool.not_true <| And.intro @Bool.not_false <| And.intro @Bool.and_true <| And.intro @Bool.true_and <| And.intro @Bool.and_false <| And.intro @Bool.false_and <| And.intro @Bool.or_true <| And.intro @Bool.true_or <| And.intro @Bool.or_false <| And.intro @Bool.false_or <| And.intro @cond_true.{1} <| And.intro @cond_false.{1} <| And.intro @List.getElem?_cons_zero.{0} <| And.intro @List.getElem?_cons_succ.{0} <| And.intro @List.set_cons_zero.{0} <| And.intro @List.set_cons_succ.{0} <| And.intro @Option.isNone_none.{0} <| And.intro @Option.isNone_some.{0} <| And.intro @List.all_cons.{0} <| And.intro @List.all_nil.{0} <| And.intro @Nat.zero_add <| And.intro @Nat.add_zero <| And.intro @List.count_cons.{0} <| And.intro @List.count_nil.{0} <| And.intro @List.replicate_succ.{0} <| And.intro @List.replicate_zero.{0} <| And.intro @List.contains_cons.{0} <| And.intro @List.contains_nil.{0} <| And.intro @Option.bind_none.{0, 0} <| @Option.map_none.{0, 0}) := And.intro @List.length_cons.{0} <| And.intro @List.length_nil.{0} <| And.intro @List.take_succ_cons.{0} <| And.intro @List.take_zero.{0} <| And.intro @List.take_nil.{0} <| And.intro @List.drop_succ_cons.{0} <| And.intro @List.drop_zero.{0} <| And.intro @List.drop_nil.{0} <| And.intro @List.cons_append.{0} <| And.intro @List.nil_append.{0} <| And.intro @List.append_nil.{0} <| And.intro @List.map_cons.{0, 0} <| And.intro @List.map_nil.{0, 0} <| And.intro @List.flatMap_cons.{0, 0} <| And.intro @List.flatMap_nil.{0, 0} <| And.intro @Option.bind_some.{0, 0} <| And.intro @Option.map_some.{0, 0} <| And.intro @Prod.mk.injEq.{0, 0} <| And.intro @and_self <| And.intro @and_true <| And.intro @true_and <| And.intro @Bool.not_true <| And.intro @Bool.not_false <| And.intro @Bool.and_true <| And.intro @Bool.true_and <| And.intro @Bool.and_false <| And.intro @Bool.false_and <| And.intro @Bool.or_true <| And.intro @Bool.true_or <| And.intro @Bool.or_false <| And.intro @Bool.false_or <| And.intro @cond_true.{1} <| And.intro @cond_false.{1} <| And.intro @List.getElem?_cons_zero.{0} <| And.intro @List.getElem?_cons_succ.{0} <| And.intro @List.set_cons_zero.{0} <| And.intro @List.set_cons_succ.{0} <| And.intro @Option.isNone_none.{0} <| And.intro @Option.isNone_some.{0} <| And.intro @List.all_cons.{0} <| And.intro @List.all_nil.{0} <| And.intro @Nat.zero_add <| And.intro @Nat.add_zero <| And.intro @List.count_cons.{0} <| And.intro @List.count_nil.{0} <| And.intro @List.replicate_succ.{0} <| And.intro @List.replicate_zero.{0} <| And.intro @List.contains_cons.{0} <| And.intro @List.contains_nil.{0} <| And.intro @Option.bind_none.{0, 0} <| @Option.map_none.{0, 0}
end Go.Proofs.YtmhdapjmndfkgaaGreatDoor.Eng.V
