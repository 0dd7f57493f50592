/- A builder; a page's lines. -/
import Derived.Test.YtmhdapjmndfkgaaGreatDoorSpH
namespace Go.Proofs.YtmhdapjmndfkgaaGreatDoor.Sp.B
open Go Go.Proofs.YtmhdapjmndfkgaaGreatDoor.Eng Go.Proofs.YtmhdapjmndfkgaaGreatDoor.Eng.V
set_option linter.unusedSimpArgs false
set_option linter.unusedVariables false
open Sp
open Sp.W (lt2 riseP sl xi_at wrap_succ wrap_nat wrap_pred)
/-- What a builder holds. -/
abbrev bE (l : List UInt8) : List (List AV) := l.map Prim.byteE
abbrev bw (a : AV) (l : List UInt8) : AV := .agg [a, .own (tz 1 5) true (bE l)]
abbrev slf : AV := .ptr (1000001, 0) 0
theorem ba_toList (s : ByteArray) : s.toList = s.data.toList := by
  have h : ∀ (n i : Nat) (r : List UInt8), n = s.size - i → ByteArray.toList.loop s i r = r.reverse ++ s.data.toList.drop i := by
    intro n
    induction n with
    | zero =>
      intro i r hn
      have hi : s.data.toList.length ≤ i := by show s.data.size ≤ i; have : s.data.size = s.size := rfl; omega
      unfold ByteArray.toList.loop
      rw [if_neg (by omega), List.drop_eq_nil_of_le hi, List.append_nil]
    | succ n ih =>
      intro i r hn
      have hi : i < s.data.toList.length := by show i < s.data.size; have : s.data.size = s.size := rfl; omega
      unfold ByteArray.toList.loop
      rw [if_pos (by omega), ih (i + 1) _ (by omega), List.reverse_cons, List.append_assoc]
      congr 1
      rw [List.drop_eq_getElem_cons hi]
      have hs : i < s.size := hi
      simp [ByteArray.get!, getElem!_def, Array.getElem?_eq_getElem (show i < s.data.size from hi)]
  have := h s.size 0 [] rfl
  simpa [ByteArray.toList] using this
theorem l_reach0 {g : Key → Option Ob} {n : Nat} {acc : List Key} : reach g (n + 1) [] acc = some acc := rfl
def rch (g : Key → Option Ob) (n : Nat) (l acc : List Key) (k : Key) : Option Ob → Option (List Key)
  | some (.var cs false) => reach g n (l ++ cs.flatMap ptrs1) (acc ++ [k])
  | _ => none
theorem l_reach1 {g : Key → Option Ob} {n : Nat} {k : Key} {l acc : List Key} : reach g (n + 1) (k :: l) acc = if acc.contains k then reach g n l acc else rch g n l acc k (g k) := by
  simp only [reach]
  split
  · rfl
  · unfold rch
    cases g k with
    | none => rfl
    | some x =>
      cases x with
      | var cs s => cases s <;> rfl
      | _ => rfl
theorem l_rch {g : Key → Option Ob} {n : Nat} {k : Key} {l acc : List Key} {cs : List AV} : rch g n l acc k (some (.var cs false)) = reach g n (l ++ cs.flatMap ptrs1) (acc ++ [k]) := rfl
theorem d_copy0 (T : TypeId) (hT : T = 80 ∨ T = 82) (l : List UInt8) : dd i___strings_Builder__copyCheck [.tup [bw (.bnil T) l], slf] = some (.tup [bw slf l]) := by
  refine D_runBE (V := v___strings_Builder__copyCheck) 1 rfl rfl rfl ?_
  rw [s___strings_Builder__copyCheck]
  rcases hT with rfl | rfl <;> simp [X, Y, Z, ba_toList, l_reach0, l_reach1, l_rch, lendIn, lendV, impT, impA, impL, imp1, XrB, lendOut, outB, expTR, expAR, expLR, exp1R, keepR, exp1, allKeys, Xl, lendR, lendKs, lendPs, lendSs, lendMk, lendCs, lendOk, lendSl, lendF, lendSet, inR, outR, ren1, live1, ptrs1, isAgg1, seqR, mapA, mapT, mapO, keys1]
theorem d_copy1 (l : List UInt8) : dd i___strings_Builder__copyCheck [.tup [bw slf l], slf] = some (.tup [bw slf l]) := by
  refine D_runBE (V := v___strings_Builder__copyCheck) 1 rfl rfl rfl ?_
  rw [s___strings_Builder__copyCheck]
  simp [X, Y, Z, ba_toList, l_reach0, l_reach1, l_rch, lendIn, lendV, impT, impA, impL, imp1, XrB, lendOut, outB, expTR, expAR, expLR, exp1R, keepR, exp1, allKeys, Xl, lendR, lendKs, lendPs, lendSs, lendMk, lendCs, lendOk, lendSl, lendF, lendSet, inR, outR, ren1, live1, ptrs1, isAgg1, seqR, mapA, mapT, mapO, keys1]
theorem d_WS (a : AV) (ha : a = .bnil 80 ∨ a = .bnil 82 ∨ a = slf) (l : List UInt8) (s : ByteArray) (h : l.length + s.size ≤ 70368744177664) : dd i___strings_Builder__WriteString [.tup [bw a l], slf, st s] = some (.tup [i64 s.size, .v .nilIface, bw slf (l ++ s.data.toList)]) := by
  have e : dd i___strings_Builder__copyCheck [.tup [bw a l], slf] = some (.tup [bw slf l]) := by
    rcases ha with rfl | rfl | rfl
    · exact d_copy0 _ (.inl rfl) l
    · exact d_copy0 _ (.inr rfl) l
    · exact d_copy1 l
  have hs : s.data.toList.length = s.size := rfl
  have hn : Go.Proofs.YtmhdapjmndfkgaaGreatDoor.Eng.lenOk 1 (s.data.toList.map Prim.byteE) = true := by
    unfold Go.Proofs.YtmhdapjmndfkgaaGreatDoor.Eng.lenOk
    rw [List.all_map, List.all_eq_true]
    intro x _
    rfl
  have hm : (s.data.toList.map fun (b : UInt8) => [AV.v (.int .u8 (b.toNat : Int))]) = s.data.toList.map Prim.byteE := rfl
  refine D_runBE (V := v___strings_Builder__WriteString) 1 rfl rfl rfl ?_
  rw [s___strings_Builder__WriteString]
  rcases ha with rfl | rfl | rfl <;> simp [X, Y, Z, e, hn, hm, h, ba_toList, l_reach0, l_reach1, l_rch, lendIn, lendV, impT, impA, impL, imp1, XrB, lendOut, outB, expTR, expAR, expLR, exp1R, keepR, exp1, allKeys, Xl, lendR, lendKs, lendPs, lendSs, lendMk, lendCs, lendOk, lendSl, lendF, lendSet, inR, outR, ren1, live1, ptrs1, isAgg1, seqR, mapA, mapT, mapO, keys1]
theorem d_String (l : List UInt8) (h0 : l ≠ []) (h : l.length ≤ 70368744177664) : dd i___strings_Builder__String [.tup [bw slf l], slf] = some (.tup [st ⟨l.toArray⟩, .agg [.undef, .undef]]) := D_prim (by
  have hb : ¬ (l = [] ∨ 70368744177664 < l.length) := fun h' => h'.elim h0 (by omega)
  show Prim.primsB 33 [.tup [.agg [.ptr (1000001, 0) 0, .own (tz 1 5) true (l.map Prim.byteE)]], .ptr (1000001, 0) 0] = _
  unfold Prim.primsB
  simp [Prim.bytesOf_map, hb])
/-- Texts' bytes, one behind the other. -/
def cat (l : List ByteArray) : List UInt8 := l.flatMap fun s => s.data.toList
theorem cat_snoc (l : List ByteArray) (s : ByteArray) : cat (l ++ [s]) = cat l ++ s.data.toList := by simp [cat]
theorem cat_append (l m : List ByteArray) : cat (l ++ m) = cat l ++ cat m := by simp [cat]
theorem cat_cons (s : ByteArray) (l : List ByteArray) : cat (s :: l) = s.data.toList ++ cat l := by simp [cat]
theorem cat_nil : cat [] = [] := rfl
/-- A builder as a variable in a call to which it is lent, or in the call that has it: its slice lies at the key q. -/
def okA (a : AV) : Prop := a = .bnil 80 ∨ a = .bnil 82 ∨ a = slf
abbrev bO (k : Key) (a : AV) (s j : Nat) (mu : Bool) (l : List UInt8) : Objs := [(k, .var [a, .asl (s, j) (bE l)] false), ((s, j), .tail l.length (tz 1 5) mu false)]
set_option maxHeartbeats 4000000 in
set_option maxRecDepth 100000 in
theorem line_loop (ws : List ByteArray) (a0 : AV) (l0 : List UInt8) (hb : l0.length + (cat ws).length + 1 ≤ 70368744177664) (hw : ws.length < 1000000) (N m : Nat) (hm : ws.length < m) (a : AV) (ha : okA a) (mu : Bool) :
    R___sprint_page__line_0 dd Prim.powG [bw a0 l0] N m (bO (1000001, 0) a 1000000 1 mu l0) slf (.fsl (ws.map fun w => [st w])) (i64 ws.length) (i64 0) .undef .undef = some (.tup [bw slf (l0 ++ cat ws ++ [10])]) := by
  generalize hT : l0 ++ cat ws ++ [10] = T
  have h := loop_acc ws (P := fun dn r m => ∀ (a : AV) (s j : Nat) (mu : Bool) (l : List UInt8) (y : AV), okA a → (s = 1000000 ∨ s = 16) → l = l0 ++ cat dn → R___sprint_page__line_0 dd Prim.powG [bw a0 l0] N m (bO (1000001, 0) a s j mu l) slf (.fsl (ws.map fun w => [st w])) (i64 ws.length) (i64 dn.length) .undef y = some (.tup [bw slf T])) (by
    intro m a s j mu l y ha hs hl
    have hl' : l.length = l0.length + (cat ws).length := by rw [hl, List.length_append]
    have e := d_WS a ha l ⟨#[10]⟩ (by rw [hl']; exact hb)
    have er : l ++ (⟨#[10]⟩ : ByteArray).data.toList = T := by rw [hl, ← hT]
    rw [er] at e
    rw [R___sprint_page__line_0_s]
    rcases ha with rfl | rfl | rfl <;> rcases hs with rfl | rfl <;> simp [X, Y, Z, e, ba_toList, l_reach0, l_reach1, l_rch, lendIn, lendV, impT, impA, impL, imp1, XrB, lendOut, outB, expTR, expAR, expLR, exp1R, keepR, exp1, allKeys, Xl, lendR, lendKs, lendPs, lendSs, lendMk, lendCs, lendOk, lendSl, lendF, lendSet, inR, outR, ren1, live1, ptrs1, isAgg1, seqR, mapA, mapT, mapO, keys1]) (by
    intro dn x r m he hi hx ih a s j mu l y ha hs hl
    have hl' : l.length = l0.length + (cat dn).length := by rw [hl, List.length_append]
    have hc : (cat ws).length = (cat dn).length + x.size + (cat r).length := by
      rw [he, cat_append, cat_cons, List.length_append, List.length_append, Nat.add_assoc]
      rfl
    have e := d_WS a ha l x (by omega)
    rw [List.length_append, List.length_cons, List.length_nil] at ih
    push_cast at ih
    obtain ⟨l2, hl2⟩ : ∃ l2, l2 = l ++ x.data.toList := ⟨_, rfl⟩
    rw [← hl2] at e
    have fin := fun j mu y => ih slf 16 j mu l2 y (.inr (.inr rfl)) (.inr rfl) (by rw [hl2, hl, cat_snoc, List.append_assoc])
    rw [R___sprint_page__line_0_s]
    rcases ha with rfl | rfl | rfl <;> rcases hs with rfl | rfl <;> simp [X, Y, Z, e, ba_toList, l_reach0, l_reach1, l_rch, lendIn, lendV, impT, impA, impL, imp1, XrB, lendOut, outB, expTR, expAR, expLR, exp1R, keepR, exp1, allKeys, Xl, lendR, lendKs, lendPs, lendSs, lendMk, lendCs, lendOk, lendSl, lendF, lendSet, inR, outR, ren1, live1, ptrs1, isAgg1, seqR, mapA, mapT, mapO, keys1, hi, xi_at hx, k___sprint_page__line_0, inK, wrap_succ (show dn.length < 4611686018427387904 by omega)] <;> exact fin _ _ _) m hm
  exact h a 1000000 1 mu l0 .undef ha (.inl rfl) (by simp [cat])
set_option maxHeartbeats 4000000 in
set_option maxRecDepth 100000 in
theorem d_line (ws : List ByteArray) (a : AV) (ha : okA a) (l : List UInt8) (hb : l.length + (cat ws).length + 1 ≤ 70368744177664) (hw : ws.length < 1000000) :
    dd i___sprint_page__line [.tup [bw a l], slf, .fsl (ws.map fun w => [st w])] = some (.tup [bw slf (l ++ cat ws ++ [10])]) := by
  refine D_runBE (V := v___sprint_page__line) (ws.length + 1) rfl rfl rfl ?_
  rw [s___sprint_page__line]
  have h := line_loop ws a l hb hw (ws.length + 1) (ws.length + 1) (by omega) a ha true
  rw [List.append_assoc] at h
  rcases ha with rfl | rfl | rfl <;> simp [X, Y, Z, ba_toList, l_reach0, l_reach1, l_rch, lendIn, lendV, impT, impA, impL, imp1, XrB, lendOut, outB, expTR, expAR, expLR, exp1R, keepR, exp1, allKeys, Xl, lendR, lendKs, lendPs, lendSs, lendMk, lendCs, lendOk, lendSl, lendF, lendSet, inR, outR, ren1, live1, ptrs1, isAgg1, seqR, mapA, mapT, mapO, keys1, k___sprint_page__line_0, inK] <;> exact h
end Go.Proofs.YtmhdapjmndfkgaaGreatDoor.Sp.B
