/- (*strings.Builder).String: what a builder of the call's own holds, as a text; for the engine. -/
import Derived.Test.YtmhdapjmndfkgaaGreatDoorGrow
import Derived.Shelf.Strings.Builder1
namespace Go.Proofs.YtmhdapjmndfkgaaGreatDoor.Prim
open Go Go.RowKit Go.Proofs.YtmhdapjmndfkgaaGreatDoor.Eng Go.Shelf
set_option linter.unusedSimpArgs false
set_option linter.unusedVariables false
theorem lies_off {P : Program} {e : TypeId} (hc : P.cellsOf e = 1) (count off n : Nat) (hn : off + n ≤ count) : liesAt P P.depth e count off e n = true := by
  have hd : P.depth = (2 * (P.types.size + Made.depth) + 1) + 1 := rfl
  rw [hd]
  simp only [liesAt, Bool.or_eq_true]
  left
  rw [hd]
  simp [rowAt, hc, hn, sameLayout, Nat.mod_one]
theorem run_str {P : Program} (w : World) (pt it ty e : TypeId) (hp : P.underlying pt = some (.pointer e)) (hc : P.cellsOf e = 1) (g o cells : Nat) (hsh : w.shape? g = some (e, cells)) (l : List UInt8) (h0 : l ≠ []) (hn : o + l.length ≤ cells) (h63 : l.length ≤ 9223372036854775807)
    (hcell : ∀ j x, l[j]? = some x → w.cell? ((⟨g, o, none⟩ : Addr).add j) = some (.int .u8 x.toNat)) :
    (Builtin.unsafeString_ #[pt, it] ty #[.pointer (some ⟨g, o, none⟩), .int .i64 l.length]).run P w = .ok (.string ⟨l.toArray⟩) (w.freeze ⟨g, o, none⟩ l.length) := by
  have hl : l.length ≠ 0 := by simpa using h0
  have hlb := Lib.run_loadBytes (P := P) (w := w) l ⟨g, o, none⟩ .empty hcell
  have hlies := lies_off (P := P) hc (cells / P.cellsOf e) o l.length (by rw [hc]; simpa using hn)
  have h63' : ¬ (9223372036854775807 : Int) < (l.length : Int) := by omega
  have hmax : IntKind.i64.max = 9223372036854775807 := rfl
  have hneg : ¬ (l.length : Int) < 0 := by omega
  have hdef : Builtin.unsafeString_ #[pt, it] ty #[.pointer (some ⟨g, o, none⟩), .int .i64 l.length] = (do
      let n ← asInt (.int .i64 l.length)
      if n < 0 then runtimePanic (.error "unsafe.String: len out of range")
      if n > IntKind.i64.max then unsupported (.unsafePointer "String: a length above the largest int")
      if n = 0 then pure (.string .empty)
      else if ← variablesAt ⟨g, o, none⟩ (← elemOf pt) n.toNat then do
        let s ← loadBytes ⟨g, o, none⟩ .empty n.toNat
        freeze ⟨g, o, none⟩ n.toNat
        pure (.string s)
      else unsupported (.unsafePointer "String: not so many bytes at ptr")) := rfl
  rw [hdef]
  simp [asInt, asIntOf, hmax, h63', hneg, hl, variablesAt, hsh, elemOf, run_underlying hp, hlies, hlb]
set_option maxHeartbeats 1000000 in
set_option maxRecDepth 100000 in
theorem string_walk {P : Program} {ρ : Ren} (L : Lays.n169 P ρ) (X : Builder.Extra P ρ) (b g o cap : Nat) (xs : Array Value) (l : List UInt8) (w : World) (hbk : w.cell? ⟨b, 1, none⟩ = some (.slice (some ⟨g, o, none⟩) l.length cap)) (hg : w.heap[g]? = some (.cells xs (ρ.t 5) (0, 0))) (hsz : o + l.length ≤ xs.size) (hcap : cap ≠ 0) (h0 : l ≠ []) (h63 : l.length ≤ 9223372036854775807)
    (hcell : ∀ j x, l[j]? = some x → w.cell? ((⟨g, o, none⟩ : Addr).add j) = some (.int .u8 x.toNat)) :
    Calls P (ρ.f 169) #[.pointer (some ⟨b, 0, none⟩)] w fun e w' => e = .returned (.string ⟨l.toArray⟩) ∧ w' = w.drew.freeze ⟨g, o, none⟩ l.length := by
  have c1 : w.drew.cell? ⟨b, 1, none⟩ = some (.slice (some ⟨g, o, none⟩) l.length cap) := hbk
  have hSD : (Builtin.unsafeSliceData_ #[(ρ.t 37)] (ρ.t 127) #[.slice (some ⟨g, o, none⟩) l.length cap]).run P w.drew = .ok (.pointer (some ⟨g, o, none⟩)) w.drew :=
    Lib.run_unsafeSliceData_row _ _ _ _ _ _ hcap
  have hUS : (Builtin.unsafeString_ #[(ρ.t 127), (ρ.t 3)] (ρ.t 9) #[.pointer (some ⟨g, o, none⟩), .int .i64 l.length]).run P w.drew = .ok (.string ⟨l.toArray⟩) (w.drew.freeze ⟨g, o, none⟩ l.length) :=
    run_str w.drew (ρ.t 127) (ρ.t 3) (ρ.t 9) (ρ.t 5) L.t127 X.cellsByte g o xs.size (by have hg' : w.drew.heap[g]? = some (.cells xs (ρ.t 5) (0, 0)) := hg; simp [World.shape?, hg']) l h0 hsz h63 hcell
  have mixed := L.mixed
  have t72 := L.t72; have a72 := L.a72; have z72 := L.z72; have v72 := L.v72; have u72 := run_underlying L.t72
  have t70 := L.t70; have a70 := L.a70; have z70 := L.z70; have v70 := L.v70; have u70 := run_underlying L.t70
  have t37 := L.t37; have a37 := L.a37; have z37 := L.z37; have v37 := L.v37; have u37 := run_underlying L.t37
  have t127 := L.t127; have a127 := L.a127; have z127 := L.z127; have v127 := L.v127; have u127 := run_underlying L.t127
  have t3 := L.t3; have a3 := L.a3; have z3 := L.z3; have v3 := L.v3; have u3 := run_underlying L.t3
  have t9 := L.t9; have a9 := L.a9; have z9 := L.z9; have v9 := L.v9; have u9 := run_underlying L.t9
  have t5 := X.t5; have a5 := X.a5; have z5 := X.z5; have v5 := X.v5; have u5 := run_underlying X.t5
  go_enter L.f169, Body.n169_ntmps ρ
  go_wp2
  go_region_o
  all_goals (go_wp2; go_ret; exact ⟨rfl, rfl⟩)
/-- Bytes as elements; and back. -/
def byteE (b : UInt8) : List AV := [.v (.int .u8 (b.toNat : Int))]
def bytesOf : List (List AV) → Option (List UInt8)
  | [] => some []
  | [.v (.int .u8 n)] :: l => if 0 ≤ n ∧ n < 256 then (bytesOf l).map fun m => n.toNat.toUInt8 :: m else none
  | _ :: _ => none
theorem bytesOf_map : ∀ l : List UInt8, bytesOf (l.map byteE) = some l
  | [] => rfl
  | b :: l => by
    have h1 : (b.toNat : Int) < 256 := by have := b.toNat_lt; omega
    simp only [List.map_cons, byteE, bytesOf]
    rw [if_pos ⟨by omega, h1⟩, bytesOf_map l]
    simp
theorem bytesOf_get : ∀ {es : List (List AV)} {l : List UInt8}, bytesOf es = some l → es.length = l.length ∧ ∀ (i : Nat) (x : UInt8), l[i]? = some x → es[i]? = some (byteE x)
  | [], l, h => by
    simp [bytesOf] at h
    subst h
    simp
  | e :: es, l, h => by
    unfold bytesOf at h
    split at h
    · rename_i he; cases he
    · rename_i n l' he
      cases he
      split at h
      · rename_i hn
        obtain ⟨m, hm, rfl⟩ := Option.map_eq_some_iff.1 h
        obtain ⟨h1, h2⟩ := bytesOf_get hm
        refine ⟨by simp [h1], fun i x hx => ?_⟩
        cases i with
        | zero =>
          simp only [List.getElem?_cons_zero, Option.some.injEq] at hx
          subst hx
          have : ((n.toNat.toUInt8).toNat : Int) = n := by
            rw [show (n.toNat.toUInt8).toNat = n.toNat % 256 from by simp]
            omega
          simp only [List.getElem?_cons_zero, byteE, this]
        | succ i => simpa using h2 i x (by simpa using hx)
      · cases h
    · cases h
theorem frz_at (w : World) (g o n : Nat) {xs : Array Value} {T : TypeId} (h : w.heap[g]? = some (.cells xs T (0, 0))) :
    (w.drew.freeze ⟨g, o, none⟩ n).os = w.os ∧ (w.drew.freeze ⟨g, o, none⟩ n).tape = w.tape ∧ (w.drew.freeze ⟨g, o, none⟩ n).output = w.output ∧ (w.drew.freeze ⟨g, o, none⟩ n).heap.size = w.heap.size ∧ (∀ k, k ≠ g → (w.drew.freeze ⟨g, o, none⟩ n).heap[k]? = w.heap[k]?) ∧ ∃ fr, (w.drew.freeze ⟨g, o, none⟩ n).heap[g]? = some (.cells xs T fr) := by
  unfold World.freeze
  split
  · exact ⟨rfl, rfl, rfl, rfl, fun _ _ => rfl, (0, 0), h⟩
  · refine ⟨rfl, rfl, rfl, by show (w.heap.modify g _).size = _; rw [Array.size_modify], fun k hk => ?_, ?_⟩
    · show (w.heap.modify g _)[k]? = _
      rw [Array.getElem?_modify, if_neg (fun e => hk e.symm)]
    · refine ⟨(o, o + n), ?_⟩
      show (w.heap.modify g _)[g]? = _
      rw [Array.getElem?_modify, if_pos rfl, h]
      rfl
theorem frz_cell (w : World) (g o n : Nat) {xs : Array Value} {T : TypeId} (h : w.heap[g]? = some (.cells xs T (0, 0))) (b i : Nat) : (w.drew.freeze ⟨g, o, none⟩ n).cell? ⟨b, i, none⟩ = w.cell? ⟨b, i, none⟩ := by
  obtain ⟨_, _, _, _, h5, fr, h6⟩ := frz_at w g o n h
  unfold World.cell?
  by_cases hb : b = g
  · subst hb
    simp only [h6, h]
  · rw [h5 b hb]
def primsB : Eng.Call := fun f args => match f, args with
  | 33, [.tup [.agg [.ptr (1000001, 0) 0, .own sz mu es]], .ptr (1000001, 0) 0] => if sz = tz 1 5 then (bytesOf es).bind fun l => if l = [] ∨ 70368744177664 < l.length then none else some (.tup [.v (.string ⟨l.toArray⟩), .agg [.undef, .undef]]) else none
  | f, args => primsG f args
theorem primsBOk (hp : CallOk2 Tryz.prog powG prims) : CallOk2 Tryz.prog powG primsB := by
  refine ⟨fun f args r h => by
    unfold primsB at h
    split at h
    · rename_i sz mu es
      refine ⟨⟨_, Tryz.func33, by kernel_rfl, by kernel_rfl⟩, fun w S vargs hS hG hl ha => ?_⟩
      have := ha 0 _ (vargs[0]'(by simp at hl; omega)) rfl (Array.getElem?_eq_getElem _)
      cases this
    · exact (primsGOk hp).1 _ _ _ h, fun f ls xs r h => ?_⟩
  unfold primsB at h
  split at h
  · rename_i sz mu es he
    cases he
    split at h
    · rename_i hsz
      subst hsz
      obtain ⟨l, hl, h⟩ := Option.bind_eq_some_iff.1 h
      split at h
      · cases h
      · rename_i hl0
        obtain rfl := Option.some.inj h
        obtain ⟨hel, hget⟩ := bytesOf_get hl
        refine ⟨⟨_, Tryz.func33, by kernel_rfl, by kernel_rfl⟩, fun w S vargs sv ν0 H => ?_⟩
        obtain ⟨b, ys, T, hb1, hb2, hb3, hb4, -⟩ := H.ob (1000001, 0) _ rfl
        obtain ⟨-, ht⟩ := H.ob (1000000, 1) _ rfl
        have hes : es ≠ [] := by
          rintro rfl
          rw [List.length_nil] at hel
          exact hl0 (.inl (List.length_eq_zero_iff.1 hel.symm))
        rcases ht with ⟨-, ht⟩ | ⟨g, q, zs, T', ht1, ht2, ht3, ht4⟩
        · exact absurd (List.length_eq_zero_iff.1 ht) hes
        obtain rfl := ht4 _ rfl
        have hb1 : ν0 (1000001, 0) = some (b, 0) := hb1
        have hb2 : w.heap[b]? = some (.cells ys T (0, 0)) := hb2
        have hb3 : ys.size = 2 := hb3
        have ht1 : ν0 (1000000, 1) = some (g, q) := ht1
        have ht2 : w.heap[g]? = some (.cells zs 5 (0, 0)) := ht2
        have ht3 : q + es.length * 1 ≤ zs.size := ht3
        have hlen : vargs.size = 1 := H.len
        obtain ⟨b', cs', s', -, h6, h7⟩ := H.arg 0 (.ptr (1000001, 0) 0) (vargs[0]'(by omega)) rfl (Array.getElem?_eq_getElem _)
        have h6 : ν0 (1000001, 0) = some (b', 0) := h6
        rw [hb1] at h6
        cases h6
        have hva : vargs = #[.pointer (some ⟨b, 0, none⟩)] := by
          apply Array.ext (by simpa using hlen)
          intro i h1 h2
          match i, h2 with
          | 0, _ => exact h7
        subst hva
        obtain ⟨hc1, -⟩ := hb4 1 (.asl (1000000, 1) es) (ys[1]'(by omega)) rfl (Array.getElem?_eq_getElem _)
        obtain ⟨len, sz', mu', shr', a1, -, -, -, a5⟩ := hc1
        have a1 : some (Ob.tail es.length (tz 1 5) mu !mu) = some (.tail len sz' mu' shr') := a1
        cases a1
        rcases a5 with ⟨-, a6, -⟩ | ⟨g', o, cap, X, a6, a7, a8, a9⟩
        · exact absurd a6 hes
        obtain ⟨a10, -⟩ := a8 rfl
        have a10 : ν0 (1000000, 1) = some (g', o) := a10
        rw [ht1] at a10
        cases a10
        have hcell1 : w.cell? ⟨b, 1, none⟩ = some (.slice (some ⟨g, q, none⟩) l.length cap) := by
          rw [← hel, ← a6]
          unfold World.cell?
          rw [hb2]
          exact Array.getElem?_eq_getElem _
        have hcells : ∀ j x, l[j]? = some x → w.cell? ((⟨g, q, none⟩ : Addr).add j) = some (.int .u8 x.toNat) := by
          intro j x hx
          obtain ⟨-, c2, -, c4⟩ := a9 j _ 0 _ (hget j x hx) rfl
          rw [frepn c4] at c2
          rw [addr_add]
          have c2 : w.cell? ⟨g, q + (j * 1 + 0), none⟩ = _ := c2
          rw [Nat.mul_one, Nat.add_zero] at c2
          exact c2
        have hl1 : l ≠ [] := fun h => hl0 (.inl h)
        have hl2 : 0 < l.length := List.length_pos_iff.2 hl1
        have hl3 : l.length ≤ 70368744177664 := Nat.le_of_not_lt fun h => hl0 (.inr h)
        have hne : b ≠ g := by
          rintro rfl
          have := H.inj _ _ _ _ _ hb1 ht1
          cases this
        obtain ⟨z1, z2, z3, z4, z5, -⟩ := frz_at w g q l.length ht2
        refine (string_walk (ρ := Tryz.lays169_ren) Tryz.lays169 Tryz.Builder_Extra_169 b g q cap zs l w hcell1 ht2 (by omega) (by omega) hl1 (by omega) hcells).mono ?_
        rintro e w' ⟨rfl, rfl⟩
        refine ⟨_, [.string ⟨l.toArray⟩], rfl, rfl, rfl, ⟨z1, z2, z3, by omega, fun k hk ho => z5 k (by rintro rfl; exact ho (H.pl _ _ _ ht1).2.1)⟩, fun b i _ _ => frz_cell w g q _ ht2 b i, fun r hr => ?_, fun d j hd => ⟨fun k => if k = (1000001, 0) then some (b, 0) else none, ?_⟩⟩
        · simp only [List.mem_cons, List.not_mem_nil, or_false] at hr
          rcases hr with rfl | rfl <;> simp [cellsOf]
        · have hk1 : ∀ {k : Key} {b' base : Nat}, (if k = (1000001, 0) then some (b, 0) else none) = some (b', base) → k = (1000001, 0) ∧ b' = b ∧ base = 0 := by
            intro k b' base h
            split at h
            · rename_i hk; cases h; exact ⟨hk, rfl, rfl⟩
            · cases h
          have hbl := (H.pl _ _ _ hb1).2.2
          refine ⟨fun k b' base h => ?_, fun k k' b' i i' h h' => by rw [(hk1 h).1, (hk1 h').1], fun k x h => ?_, fun b' i ho hs => ?_, fun m r y hr hy => ?_, fun i cs h => ?_, fun i c h hc => ?_⟩
          · obtain ⟨rfl, rfl, rfl⟩ := hk1 h
            exact ⟨rfl, by rw [z4]; exact hbl, .inl ⟨rfl, hb1⟩⟩
          · have h : getO [((1000001, 0), Ob.var [.undef, .undef] false)] k = some x := h
            simp only [getO] at h
            split at h
            · rename_i hk
              cases h
              subst hk
              refine ⟨b, ys, T, rfl, by show _ = _; rw [← hb2]; exact z5 b hne, hb3, fun i c x hc hx => ⟨?_, ?_⟩, fun T' h => by cases h⟩
              · match i, hc with
                | 0, hc => cases hc; trivial
                | 1, hc => cases hc; trivial
              · have hi : i < 2 := by rw [← hb3]; exact (Array.getElem?_eq_some_iff.1 hx).1
                match i, hi with
                | 0, _ => exact (hb4 0 _ x rfl hx).2
                | 1, _ => exact (hb4 1 _ x rfl hx).2
            · cases h
          · rcases H.fz b' i ho hs with ⟨⟨_, h2⟩, _⟩ | ⟨h1, h2, h3⟩
            · exact absurd ho h2
            · refine .inr ⟨h1, by rw [z4]; exact h2, fun k base hk => ?_⟩
              obtain ⟨rfl, rfl, rfl⟩ := hk1 hk
              have := h3 _ _ hb1
              exact absurd this (by intro h; cases h)
          · match m, hr, hy with
            | 0, hr, hy =>
              cases hr; cases hy
              exact FRep.v rfl
          · match i, h with
            | 0, h => exact ⟨_, rfl, by show (if _ then _ else _) = _; rw [if_pos rfl, hb1]⟩
          · match i, h with
            | 0, h => cases h; cases hc
    · cases h
  · exact (primsGOk hp).2 _ _ _ _ h
end Go.Proofs.YtmhdapjmndfkgaaGreatDoor.Prim
