/-
  A part of the walk of garlandlaw08.BagOwn.
-/
import Derived.Test.YteloibaggcihnaaWN
import Derived.Test.YteloibaggcihnaaWQ
set_option linter.all false
set_option linter.unusedVariables false
set_option linter.unusedSimpArgs false

namespace Go.Proofs.Bo
open Go Go.Abs
attribute [local irreducible] AWP vops vopsD

def big (b : Bag) : Prop := b.grams.length ≤ 1000000 ∧ ∀ g ∈ b.grams, g.bytes.length ≤ 1000000
theorem big_of {b : Bag} (h : fits b) : big b := ⟨by have := h.1; omega, fun g hg => by have := h.2 g hg; omega⟩

theorem big_erase {b : Bag} (h : fits b) (k : Nat) (n : Int) : big ⟨b.grams.eraseIdx k, n⟩ :=
  ⟨by have := h.1; have := List.length_eraseIdx_le b.grams k; show (b.grams.eraseIdx k).length ≤ _; omega, fun g hg => by have := h.2 g (List.mem_of_mem_eraseIdx hg); omega⟩

theorem put1_mem (b : Bag) (g : Gram) : (put1 b g).grams.length ≤ b.grams.length + 1 ∧ ∀ x ∈ (put1 b g).grams, x ∈ b.grams ∨ x = g := by
  unfold put1
  split <;> simp <;> grind

theorem put_mem : ∀ {l : List Gram} {b : Bag}, (putN b l).grams.length ≤ b.grams.length + l.length ∧ ∀ g ∈ (putN b l).grams, g ∈ b.grams ∨ g ∈ l
  | [], b => by simp [putN]
  | g :: l, b => by
    have ih := put_mem (l := l) (b := put1 b g)
    have h1 := put1_mem b g
    show (putN (put1 b g) l).grams.length ≤ _ ∧ _
    refine ⟨by simp only [List.length_cons]; omega, fun x hx => ?_⟩
    rcases ih.2 x hx with h | h
    · rcases h1.2 x h with h | h
      · exact .inl h
      · exact .inr (by simp [h])
    · exact .inr (by simp [h])

theorem drop_ex (b : Bag) (hb : fits b) (k : Int) : ∃ B n, big B ∧ ANew Try.prog false 9 [.agg (eBag b), .int .i64 k] (.tup [rBag B, .p (.int .i64 n)]) (bBag B) := by
  by_cases h : 0 ≤ k ∧ k < b.grams.length
  · obtain ⟨k', rfl⟩ : ∃ k' : Nat, k = k' := ⟨k.toNat, by omega⟩
    exact ⟨_, _, big_erase hb _ _, drop_y b hb k' (by omega)⟩
  · exact ⟨_, _, big_of hb, drop_n b hb k h⟩

theorem twice_ex (b : Bag) (hb : fits b) (k : Int) : ∃ B n, big B ∧ ANew Try.prog false 10 [.agg (eBag b), .int .i64 k] (.tup [rBag B, .p (.int .i64 n)]) (bBag B) := by
  by_cases h : 0 ≤ k ∧ k < b.grams.length
  · obtain ⟨k', rfl⟩ : ∃ k' : Nat, k = k' := ⟨k.toNat, by omega⟩
    refine ⟨_, _, ⟨?_, fun g hg => ?_⟩, twice_y b hb k' (by omega)⟩
    · have := (put_mem (l := [b.grams[k']'(by omega)]) (b := b)).1
      have := hb.1
      simp at *; omega
    · rcases (put_mem (l := [b.grams[k']'(by omega)]) (b := b)).2 g hg with h | h
      · have := hb.2 g h; omega
      · simp at h; subst h
        have := hb.2 _ (List.getElem_mem (by omega : k' < b.grams.length)); omega
  · exact ⟨_, _, big_of hb, twice_n b hb k h⟩

theorem harm_ex (b : Bag) (hb : fits b) (k i : Int) : ∃ B n, big B ∧ ANew Try.prog false 11 [.agg (eBag b), .int .i64 k, .int .i64 i, .int .u8 1] (.tup [rBag B, .p (.int .i64 n)]) (bBag B) := by
  by_cases h : 0 ≤ k ∧ k < b.grams.length
  · obtain ⟨k', rfl⟩ : ∃ k' : Nat, k = k' := ⟨k.toNat, by omega⟩
    have hk' : k' < b.grams.length := by omega
    by_cases h2 : i < 0 ∨ i ≥ b.grams[k'].bytes.length ∨ b.grams[k'].harmed = true ∨ (1 : UInt8) = 0
    · exact ⟨_, _, big_of hb, harm_n2 b hb k' i 1 hk' h2⟩
    · simp only [not_or] at h2
      obtain ⟨i', rfl⟩ : ∃ i' : Nat, i = i' := ⟨i.toNat, by omega⟩
      refine ⟨_, _, ⟨?_, fun g hg => ?_⟩, harm_y b hb k' i' 1 hk' (by omega) (by simpa using h2.2.2.1) (by decide)⟩
      · have := hb.1; simp; omega
      · rcases List.mem_or_eq_of_mem_set hg with h | h
        · have := hb.2 g h; omega
        · subst h
          have := hb.2 _ (List.getElem_mem hk')
          simp [hgram]; omega
  · exact ⟨_, _, big_of hb, harm_n b hb k i 1 h⟩
end Go.Proofs.Bo
