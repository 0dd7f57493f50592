/- strings.Join; for the engine. -/
import Derived.Test.YtmhdapjmndfkgaaGreatDoorBytes
import Derived.Test.YtmhdapjmndfkgaaGreatDoorShelf
namespace Go.Proofs.YtmhdapjmndfkgaaGreatDoor.Prim
open Go Go.RowKit Go.Proofs.YtmhdapjmndfkgaaGreatDoor.Eng Go.Shelf
set_option linter.unusedSimpArgs false
set_option linter.unusedVariables false
/-- Texts, one behind the other, with something between them. -/
def joinB (l : List ByteArray) (sep : ByteArray) : ByteArray := ⟨(Lib.join (l.map (·.data.toList)) sep.data.toList).toArray⟩
def primsJ : Eng.Call := fun f args => match f, args with
  | 62, [.fsl es, .v (.string sep)] => (strsOf es).bind fun l => if l = [] ∨ 70368744177664 < l.length ∨ 70368744177664 < (joinB l sep).size then none else some (.v (.string (joinB l sep)))
  | f, args => primsB f args
theorem primsJOk (hp : CallOk2 Tryz.prog powG prims) : CallOk2 Tryz.prog powG primsJ := by
  refine ⟨fun f args r h => ?_, fun f ls xs r h => by
    unfold primsJ at h
    split at h
    · rename_i he; cases he
    · exact (primsBOk hp).2 _ _ _ _ h⟩
  unfold primsJ at h
  split at h
  · rename_i es sep
    obtain ⟨l, hl, h⟩ := Option.bind_eq_some_iff.1 h
    split at h
    · cases h
    · rename_i hc0
      obtain rfl := Option.some.inj h
      have hl1 : l ≠ [] := fun h => hc0 (.inl h)
      have hl2 : l.length ≤ 70368744177664 := Nat.le_of_not_lt fun h => hc0 (.inr (.inl h))
      have hl3 : (joinB l sep).size ≤ 70368744177664 := Nat.le_of_not_lt fun h => hc0 (.inr (.inr h))
      refine ⟨⟨_, Tryz.func62, by kernel_rfl, by kernel_rfl⟩, fun w S vargs hS hG hlen ha => ?_⟩
      have h0 := ha 0 _ (vargs[0]'(by simp at hlen; omega)) rfl (Array.getElem?_eq_getElem _)
      have h1 := ha 1 _ (vargs[1]'(by simp at hlen; omega)) rfl (Array.getElem?_eq_getElem _)
      have hes := (strsOf_eq hl).symm
      have hva : vargs = #[vargs[0]'(by simp at hlen; omega), vargs[1]'(by simp at hlen; omega)] := by
        apply Array.ext (by simpa using hlen)
        intro i h1 h2
        match i, h2 with
        | 0, _ => rfl
        | 1, _ => rfl
      rw [frepn h1] at hva
      generalize hx : vargs[0]'(by simp at hlen; omega) = x at h0 hva
      cases h0 with
      | nil => simp at hes; exact absurd hes hl1
      | emp => simp at hes; exact absurd hes hl1
      | @sl _ b o cap sz X hk hl4 hc hr =>
        have hel : es.length = l.length := by rw [← hes, List.length_map]
        have hpos : 0 < l.length := List.length_pos_iff.2 hl1
        have hget : ∀ j (hj : j < l.length), es[j]? = some [.v (.string l[j])] := fun j hj => by rw [← hes, List.getElem?_map, List.getElem?_eq_getElem hj]; rfl
        have hcell : ∀ (j : Nat) (s : ByteArray), l[j]? = some s → w.cell? ⟨b, o + j, none⟩ = some (.string s) := fun j s hs => by
          obtain ⟨hj, rfl⟩ := List.getElem?_eq_some_iff.1 hs
          have he := hget j hj
          obtain ⟨_, h2, _⟩ := hc j _ 0 _ he rfl
          have h3 := frepn (hr j _ 0 _ he rfl)
          have h4 := hl4 j _ he
          simp at h4
          subst h4
          rw [h3, show o + (j * 1 + 0) = o + j by omega] at h2
          exact h2
        obtain ⟨hs0, _, _⟩ := hc 0 _ 0 _ (hget 0 hpos) rfl
        rw [hva, hel]
        refine (Tryz.strings_Join b o cap l sep w hcell (hS _ _ hs0) (by omega) (by omega) ?_).mono ?_
        · have : (joinB l sep).size = (Lib.join (l.map (·.data.toList)) sep.data.toList).length := by simp [joinB, ByteArray.size]
          omega
        · rintro e w' ⟨rfl, hb⟩
          refine ⟨_, rfl, hb, fun d j => ⟨fun _ => none, fun k b base h => (by cases h), fun k k' b i i' h => (by cases h), fun k x h => (by cases h), ?_⟩⟩
          exact FRep.v rfl
  · exact (primsBOk hp).1 _ _ _ h
end Go.Proofs.YtmhdapjmndfkgaaGreatDoor.Prim
