/-
  A part of the walk of garlandlaw08.BagOwn.
-/
import Derived.Test.YteloibaggcihnaaFacts
import Derived.Test.YteloibaggcihnaaAbE
set_option linter.all false
set_option linter.unusedVariables false
set_option linter.unusedSimpArgs false

namespace Go.Proofs.Bo
open Go Go.Abs

/-! what is told is turned: numbers of new memory alone -/
def sk : Nat → Code → Code
  | 0, c => c
  | k + 1, .seq _ d => sk k d
  | _, c => c
def hd : Code → Code
  | .seq a _ => a
  | c => c

def JBy (w : World) (m : Nat) (v : Value) : Prop := ∃ a n c, v = .slice a n c ∧ n ≤ 1000000 ∧ ∀ j, j < n → ∃ ad, a = some ad ∧ m ≤ ad.block ∧ ∃ x, w.cell? (ad.add (j * 1)) = some (.int .u8 x)
def JGr (w : World) (m : Nat) (v : Value) : Prop := ∃ a n c, v = .slice a n c ∧ n ≤ 1000000 ∧ ∀ i, i < n → ∃ ad, a = some ad ∧ m ≤ ad.block ∧ (∃ x, w.cell? ((ad.add (i * 3)).add 0) = some (.int .i64 x)) ∧ ∃ b, w.cell? ((ad.add (i * 3)).add 1) = some b ∧ JBy w m b
def JBags (w : World) (m : Nat) (A : Addr) : Prop := ∀ i, i < 6 → ∃ g x, At w (A.add (i * 2)) [g, .int .i64 x] ∧ JGr w m g

theorem JBy.mono {w w' : World} {m : Nat} {v : Value} (h : Jw m w w') (k : JBy w m v) : JBy w' m v := by
  obtain ⟨a, n, c, rfl, hn, hk⟩ := k
  refine ⟨a, n, c, rfl, hn, fun j hj => ?_⟩
  obtain ⟨ad, e, hm, x, hx⟩ := hk j hj
  obtain ⟨y, hy⟩ := h.int hx
  exact ⟨ad, e, hm, y, hy⟩
theorem JGr.mono {w w' : World} {m : Nat} {v : Value} (h : Jw m w w') (k : JGr w m v) : JGr w' m v := by
  obtain ⟨a, n, c, rfl, hn, hk⟩ := k
  refine ⟨a, n, c, rfl, hn, fun j hj => ?_⟩
  obtain ⟨ad, e, hm, ⟨x, hx⟩, b, hb, hjb⟩ := hk j hj
  obtain ⟨y, hy⟩ := h.int hx
  refine ⟨ad, e, hm, ⟨y, hy⟩, b, h.same hb ?_, hjb.mono h⟩
  obtain ⟨_, _, _, rfl, _⟩ := hjb
  intro k x e; cases e
theorem JBags.mono {w w' : World} {m : Nat} {A : Addr} (h : Jw m w w') (k : JBags w m A) : JBags w' m A := by
  intro i hi
  obtain ⟨g, x, hat, hg⟩ := k i hi
  have h0 := hat 0 g rfl
  have h1 := hat 1 _ rfl
  obtain ⟨y, hy⟩ := h.int h1
  refine ⟨g, y, fun j v hj => ?_, hg.mono h⟩
  rcases j with _ | _ | j
  · simp at hj; subst hj
    refine h.same h0 ?_
    obtain ⟨_, _, _, rfl, _⟩ := hg
    intro k x e; cases e
  · simp at hj; subst hj; exact hy
  · simp at hj

def leJ (e : JE) : JE → Prop
  | [] => True
  | (t, v) :: r => lk e t = some v ∧ leJ e r
theorem subJ_of {e : JE} : ∀ {e' : JE}, leJ e e' → subJ e' e
  | [], _, t, v, h => by simp [lk] at h
  | (i, u) :: r, hl, t, v, h => by
    simp only [leJ] at hl
    simp only [lk] at h
    split at h
    · rename_i e1; subst e1; cases h; exact hl.1
    · exact subJ_of hl.2 t v h

theorem wrap_succ {j n : Nat} (h : j < n) (hn : n ≤ 1000000) : IntKind.i64.wrap ((j : Int) + 1) = ((j + 1 : Nat) : Int) := by
  rw [IntWalk.i64_in _ (by omega)]; omega

def snd : Code → Code
  | .seq _ b => b
  | c => c

set_option maxHeartbeats 400000 in
theorem loops0 {m : Nat} {w : World} {A : Addr} {c : Nat} {v4 v5 v9 v10 v13 : Value} (hnf : NF m w) (hB : JBags w m A) :
    JW Try.prog 165 (snd (hd (sk 9 (Try.f3.body.getD .skip)))) ((91, .int .i64 0) :: (89, .slice (some A) 6 c) :: (90, .int .i64 6) :: [(4, v4), (5, v5), (9, v9), (10, v10), (13, v13)]) w (fun x e' w' => x = .normal ∧ Jw m w w' ∧ subJ [(4, v4), (5, v5), (9, v9), (10, v10), (13, v13)] e') := by
  refine JW.block ?_
  refine JW.loop (fun k e' w' => ∃ i, i ≤ 6 ∧ k = 6 - i ∧ e' = (91, .int .i64 ((i : Nat) : Int)) :: (89, .slice (some A) 6 c) :: (90, .int .i64 6) :: [(4, v4), (5, v5), (9, v9), (10, v10), (13, v13)] ∧ Jw m w w') ⟨_, _, fun _ _ h => h, 0, by omega, rfl, rfl, Jw.refl _ _⟩ ?_
  rintro k e w1 ⟨i, hi, rfl, rfl, hw1⟩
  have hB1 := hB.mono hw1
  have hnf1 := hw1.nf hnf
  -- i < 6?
  refine JW.seqQ fun K hK => ?_
  refine JW.region (by rfl) ?_
  repeat' first
      | refine jo_step (j_move (.inl rfl) rfl (by rfl)) ?_
      | refine jo_step (j_move (.inr rfl) rfl (by rfl)) ?_
      | refine jo_step (j_len rfl rfl rfl rfl (by first | (simp only [go_sem, Option.isSome_some]; done) | (simp only [go_sem]; rfl)) (by rfl)) ?_
      | refine jo_step (j_lt rfl rfl (by rfl) (by rfl)) ?_
      | refine jo_step (j_add rfl rfl (by rfl) (by rfl)) ?_
      | refine jo_step (j_xor rfl rfl (by rfl) (by rfl)) ?_
      | refine jo_step (j_field rfl rfl (by simp only [go_sem]; rfl) (by simp only [go_sem]; rfl) (by omega) (by rfl)) ?_
      | refine jo_step (j_index rfl rfl (by simp only [go_sem]; rfl) (by simp only [go_sem]; rfl) (by rfl) (by rfl) (by omega)) ?_
      | refine jo_step (j_load rfl rfl (by simp only [go_sem]) (by rfl) (by assumption)) ?_
      | refine jo_step (j_loads rfl rfl (by simp only [go_sem]; rfl) (by rfl) (by assumption) (by rfl)) ?_
  refine jo_nil ?_
  simp only [thenJ, blockJ, putJ]
  refine hK _ _ ?_; clear hK K
  refine JW.seqQ fun K hK => ?_
  refine JW.cond (by rfl) (fun hc => ?_) (fun hc => ?_) <;> simp only [decide_eq_true_eq, decide_eq_false_iff_not] at hc
  rotate_left
  · refine JW.exit ?_
    simp only [thenJ, blockJ, if_true]
    exact ⟨by trivial, hw1, subJ_of (by simp only [leJ, lk, reduceIte, Nat.reduceEqDiff, true_and, and_true]; first | done | rfl)⟩
  refine JW.skip ?_
  simp only [thenJ, blockJ]
  refine hK _ _ ?_; clear hK K
  -- the bag
  obtain ⟨gv, lost, hat, hg⟩ := hB1 i (by omega)
  obtain ⟨ag, n, cg, rfl, hn, hgk⟩ := id hg
  refine JW.seqQ fun K hK => ?_
  refine JW.block ?_
  refine JW.seqQ fun K2 hK2 => ?_
  refine JW.region (by rfl) ?_
  repeat' first
      | refine jo_step (j_move (.inl rfl) rfl (by rfl)) ?_
      | refine jo_step (j_move (.inr rfl) rfl (by rfl)) ?_
      | refine jo_step (j_len rfl rfl rfl rfl (by first | (simp only [go_sem, Option.isSome_some]; done) | (simp only [go_sem]; rfl)) (by rfl)) ?_
      | refine jo_step (j_lt rfl rfl (by rfl) (by rfl)) ?_
      | refine jo_step (j_add rfl rfl (by rfl) (by rfl)) ?_
      | refine jo_step (j_xor rfl rfl (by rfl) (by rfl)) ?_
      | refine jo_step (j_field rfl rfl (by simp only [go_sem]; rfl) (by simp only [go_sem]; rfl) (by omega) (by rfl)) ?_
      | refine jo_step (j_index rfl rfl (by simp only [go_sem]; rfl) (by simp only [go_sem]; rfl) (by rfl) (by rfl) (by omega)) ?_
      | refine jo_step (j_load rfl rfl (by simp only [go_sem]) (by rfl) (by assumption)) ?_
      | refine jo_step (j_loads rfl rfl (by simp only [go_sem]; rfl) (by rfl) (by assumption) (by rfl)) ?_
  refine j_var (n := 2) (us := [.slice ag n cg, .int .i64 lost]) hZ rfl rfl (by rfl) rfl rfl rfl (by simp only [go_sem]) (by rfl) (by simp) (by rfl) (by simp [Value.oneCell']) hnf1 ?_
  intro w2 hw12 hat2
  refine jo_nil ?_
  simp only [thenJ, blockJ, putJ]
  refine hK2 _ _ ?_; clear hK2 K2
  have hnf2 := hw12.nf hnf1
  have hg2 := hg.mono hw12
  have hc2 : w2.cell? ((⟨w1.heap.size, 0, none⟩ : Addr).add 0) = some (.slice ag n cg) := hat2 0 _ rfl
  refine JW.seqQ fun K2 hK2 => ?_
  refine JW.region (by rfl) ?_
  repeat' first
      | refine jo_step (j_move (.inl rfl) rfl (by rfl)) ?_
      | refine jo_step (j_move (.inr rfl) rfl (by rfl)) ?_
      | refine jo_step (j_len rfl rfl rfl rfl (by first | (simp only [go_sem, Option.isSome_some]; done) | (simp only [go_sem]; rfl)) (by rfl)) ?_
      | refine jo_step (j_lt rfl rfl (by rfl) (by rfl)) ?_
      | refine jo_step (j_add rfl rfl (by rfl) (by rfl)) ?_
      | refine jo_step (j_xor rfl rfl (by rfl) (by rfl)) ?_
      | refine jo_step (j_field rfl rfl (by simp only [go_sem]; rfl) (by simp only [go_sem]; rfl) (by omega) (by rfl)) ?_
      | refine jo_step (j_index rfl rfl (by simp only [go_sem]; rfl) (by simp only [go_sem]; rfl) (by rfl) (by rfl) (by omega)) ?_
      | refine jo_step (j_load rfl rfl (by simp only [go_sem]) (by rfl) (by assumption)) ?_
      | refine jo_step (j_loads rfl rfl (by simp only [go_sem]; rfl) (by rfl) (by assumption) (by rfl)) ?_
  refine jo_nil ?_
  simp only [thenJ, blockJ, putJ]
  refine hK2 _ _ ?_; clear hK2 K2
  refine JW.block ?_
  refine JW.loop (fun k e' w' => ∃ j, j ≤ n ∧ k = n - j ∧ e' = (23, .int .i64 ((j : Nat) : Int)) :: (22, .pointer (some ⟨w1.heap.size, 0, none⟩)) :: (91, .int .i64 ((i : Nat) : Int)) :: (89, .slice (some A) 6 c) :: (90, .int .i64 6) :: [(4, v4), (5, v5), (9, v9), (10, v10), (13, v13)] ∧ Jw m w2 w') ⟨_, _, subJ_of (by simp only [leJ, lk, reduceIte, Nat.reduceEqDiff, true_and, and_true]; first | done | rfl), 0, by omega, rfl, rfl, Jw.refl _ _⟩ ?_
  rintro k e w3 ⟨j, hj, rfl, rfl, hw3⟩
  have hg3 := hg2.mono hw3
  have hnf3 := hw3.nf hnf2
  have hc3 := hw3.same hc2 (by intro k x e; cases e)
  refine JW.seqQ fun K2 hK2 => ?_
  refine JW.seqQ fun K3 hK3 => ?_
  refine JW.region (by rfl) ?_
  repeat' first
      | refine jo_step (j_move (.inl rfl) rfl (by rfl)) ?_
      | refine jo_step (j_move (.inr rfl) rfl (by rfl)) ?_
      | refine jo_step (j_len rfl rfl rfl rfl (by first | (simp only [go_sem, Option.isSome_some]; done) | (simp only [go_sem]; rfl)) (by rfl)) ?_
      | refine jo_step (j_lt rfl rfl (by rfl) (by rfl)) ?_
      | refine jo_step (j_add rfl rfl (by rfl) (by rfl)) ?_
      | refine jo_step (j_xor rfl rfl (by rfl) (by rfl)) ?_
      | refine jo_step (j_field rfl rfl (by simp only [go_sem]; rfl) (by simp only [go_sem]; rfl) (by omega) (by rfl)) ?_
      | refine jo_step (j_index rfl rfl (by simp only [go_sem]; rfl) (by simp only [go_sem]; rfl) (by rfl) (by rfl) (by omega)) ?_
      | refine jo_step (j_load rfl rfl (by simp only [go_sem]) (by rfl) (by assumption)) ?_
      | refine jo_step (j_loads rfl rfl (by simp only [go_sem]; rfl) (by rfl) (by assumption) (by rfl)) ?_
  refine jo_nil ?_
  simp only [thenJ, blockJ, putJ]
  refine hK3 _ _ ?_; clear hK3 K3
  refine JW.cond (by rfl) (fun hcj => ?_) (fun hcj => ?_) <;> simp only [decide_eq_true_eq, decide_eq_false_iff_not] at hcj
  rotate_left
  · refine JW.exit ?_
    simp only [thenJ, blockJ, if_true]
    clear hK2 K2
    refine hK _ _ ?_; clear hK K
    refine JW.region (by rfl) ?_
    repeat' first
      | refine jo_step (j_move (.inl rfl) rfl (by rfl)) ?_
      | refine jo_step (j_move (.inr rfl) rfl (by rfl)) ?_
      | refine jo_step (j_len rfl rfl rfl rfl (by first | (simp only [go_sem, Option.isSome_some]; done) | (simp only [go_sem]; rfl)) (by rfl)) ?_
      | refine jo_step (j_lt rfl rfl (by rfl) (by rfl)) ?_
      | refine jo_step (j_add rfl rfl (by rfl) (by rfl)) ?_
      | refine jo_step (j_xor rfl rfl (by rfl) (by rfl)) ?_
      | refine jo_step (j_field rfl rfl (by simp only [go_sem]; rfl) (by simp only [go_sem]; rfl) (by omega) (by rfl)) ?_
      | refine jo_step (j_index rfl rfl (by simp only [go_sem]; rfl) (by simp only [go_sem]; rfl) (by rfl) (by rfl) (by omega)) ?_
      | refine jo_step (j_load rfl rfl (by simp only [go_sem]) (by rfl) (by assumption)) ?_
      | refine jo_step (j_loads rfl rfl (by simp only [go_sem]; rfl) (by rfl) (by assumption) (by rfl)) ?_
    refine jo_nil ?_
    simp only [thenJ, blockJ, putJ]
    have hi6 : i < 6 := by omega
    refine ⟨6 - (i + 1), _, by omega, ?_, i + 1, by omega, rfl, rfl, (hw1.trans hw12).trans hw3⟩
    rw [wrap_succ hi6 (by omega)]
    exact subJ_of (by simp only [leJ, lk, reduceIte, Nat.reduceEqDiff, true_and, and_true]; first | done | rfl)
  refine JW.skip ?_
  simp only [thenJ, blockJ]
  refine hK2 _ _ ?_; clear hK2 K2
  have hjn : j < n := by omega
  obtain ⟨a', n', c', e', hn', hgk3⟩ := hg3
  cases e'
  obtain ⟨ad, rfl, hma, ⟨x0, hx0⟩, bv, hbv, hjb⟩ := hgk3 j hjn
  refine JW.seqQ fun K2 hK2 => ?_
  refine JW.block ?_
  refine JW.seqQ fun K3 hK3 => ?_
  refine JW.region (by rfl) ?_
  repeat' first
      | refine jo_step (j_move (.inl rfl) rfl (by rfl)) ?_
      | refine jo_step (j_move (.inr rfl) rfl (by rfl)) ?_
      | refine jo_step (j_len rfl rfl rfl rfl (by first | (simp only [go_sem, Option.isSome_some]; done) | (simp only [go_sem]; rfl)) (by rfl)) ?_
      | refine jo_step (j_lt rfl rfl (by rfl) (by rfl)) ?_
      | refine jo_step (j_add rfl rfl (by rfl) (by rfl)) ?_
      | refine jo_step (j_xor rfl rfl (by rfl) (by rfl)) ?_
      | refine jo_step (j_field rfl rfl (by simp only [go_sem]; rfl) (by simp only [go_sem]; rfl) (by omega) (by rfl)) ?_
      | refine jo_step (j_index rfl rfl (by simp only [go_sem]; rfl) (by simp only [go_sem]; rfl) (by rfl) (by rfl) (by omega)) ?_
      | refine jo_step (j_load rfl rfl (by simp only [go_sem]) (by rfl) (by assumption)) ?_
      | refine jo_step (j_loads rfl rfl (by simp only [go_sem]; rfl) (by rfl) (by assumption) (by rfl)) ?_
  refine jo_store rfl rfl (by simp only [go_sem]) (by rfl) (by rfl) hx0 hnf3 (by simpa [add_block] using hma) ?_
  intro w4 hw34
  refine jo_nil ?_
  simp only [thenJ, blockJ, putJ]
  refine hK3 _ _ ?_; clear hK3 K3
  have hnf4 := hw34.nf hnf3
  have hc4 := hw34.same hc3 (by intro k x e; cases e)
  obtain ⟨ab, nb, cb, rfl, hnb, hbk⟩ := id hjb
  have hbv4 := hw34.same hbv (by intro k x e; cases e)
  have hjb4 := hjb.mono hw34
  refine JW.seqQ fun K3 hK3 => ?_
  refine JW.region (by rfl) ?_
  repeat' first
      | refine jo_step (j_move (.inl rfl) rfl (by rfl)) ?_
      | refine jo_step (j_move (.inr rfl) rfl (by rfl)) ?_
      | refine jo_step (j_len rfl rfl rfl rfl (by first | (simp only [go_sem, Option.isSome_some]; done) | (simp only [go_sem]; rfl)) (by rfl)) ?_
      | refine jo_step (j_lt rfl rfl (by rfl) (by rfl)) ?_
      | refine jo_step (j_add rfl rfl (by rfl) (by rfl)) ?_
      | refine jo_step (j_xor rfl rfl (by rfl) (by rfl)) ?_
      | refine jo_step (j_field rfl rfl (by simp only [go_sem]; rfl) (by simp only [go_sem]; rfl) (by omega) (by rfl)) ?_
      | refine jo_step (j_index rfl rfl (by simp only [go_sem]; rfl) (by simp only [go_sem]; rfl) (by rfl) (by rfl) (by omega)) ?_
      | refine jo_step (j_load rfl rfl (by simp only [go_sem]) (by rfl) (by assumption)) ?_
      | refine jo_step (j_loads rfl rfl (by simp only [go_sem]; rfl) (by rfl) (by assumption) (by rfl)) ?_
  refine jo_nil ?_
  simp only [thenJ, blockJ, putJ]
  refine hK3 _ _ ?_; clear hK3 K3
  refine JW.block ?_
  refine JW.loop (fun k e' w' => ∃ l, l ≤ nb ∧ k = nb - l ∧ e' = (24, .int .i64 ((l : Nat) : Int)) :: (23, .int .i64 ((j : Nat) : Int)) :: (22, .pointer (some ⟨w1.heap.size, 0, none⟩)) :: (91, .int .i64 ((i : Nat) : Int)) :: (89, .slice (some A) 6 c) :: (90, .int .i64 6) :: [(4, v4), (5, v5), (9, v9), (10, v10), (13, v13)] ∧ Jw m w4 w') ⟨_, _, subJ_of (by simp only [leJ, lk, reduceIte, Nat.reduceEqDiff, true_and, and_true]; first | done | rfl), 0, by omega, rfl, rfl, Jw.refl _ _⟩ ?_
  rintro k e w5 ⟨l, hl, rfl, rfl, hw5⟩
  have hjb5 := hjb4.mono hw5
  have hnf5 := hw5.nf hnf4
  have hc5 := hw5.same hc4 (by intro k x e; cases e)
  have hbv5 := hw5.same hbv4 (by intro k x e; cases e)
  refine JW.seqQ fun K3 hK3 => ?_
  refine JW.seqQ fun K4 hK4 => ?_
  refine JW.region (by rfl) ?_
  repeat' first
      | refine jo_step (j_move (.inl rfl) rfl (by rfl)) ?_
      | refine jo_step (j_move (.inr rfl) rfl (by rfl)) ?_
      | refine jo_step (j_len rfl rfl rfl rfl (by first | (simp only [go_sem, Option.isSome_some]; done) | (simp only [go_sem]; rfl)) (by rfl)) ?_
      | refine jo_step (j_lt rfl rfl (by rfl) (by rfl)) ?_
      | refine jo_step (j_add rfl rfl (by rfl) (by rfl)) ?_
      | refine jo_step (j_xor rfl rfl (by rfl) (by rfl)) ?_
      | refine jo_step (j_field rfl rfl (by simp only [go_sem]; rfl) (by simp only [go_sem]; rfl) (by omega) (by rfl)) ?_
      | refine jo_step (j_index rfl rfl (by simp only [go_sem]; rfl) (by simp only [go_sem]; rfl) (by rfl) (by rfl) (by omega)) ?_
      | refine jo_step (j_load rfl rfl (by simp only [go_sem]) (by rfl) (by assumption)) ?_
      | refine jo_step (j_loads rfl rfl (by simp only [go_sem]; rfl) (by rfl) (by assumption) (by rfl)) ?_
  refine jo_nil ?_
  simp only [thenJ, blockJ, putJ]
  refine hK4 _ _ ?_; clear hK4 K4
  refine JW.cond (by rfl) (fun hcl => ?_) (fun hcl => ?_) <;> simp only [decide_eq_true_eq, decide_eq_false_iff_not] at hcl
  rotate_left
  · refine JW.exit ?_
    simp only [thenJ, blockJ, if_true]
    clear hK3 K3
    refine hK2 _ _ ?_; clear hK2 K2
    refine JW.region (by rfl) ?_
    repeat' first
      | refine jo_step (j_move (.inl rfl) rfl (by rfl)) ?_
      | refine jo_step (j_move (.inr rfl) rfl (by rfl)) ?_
      | refine jo_step (j_len rfl rfl rfl rfl (by first | (simp only [go_sem, Option.isSome_some]; done) | (simp only [go_sem]; rfl)) (by rfl)) ?_
      | refine jo_step (j_lt rfl rfl (by rfl) (by rfl)) ?_
      | refine jo_step (j_add rfl rfl (by rfl) (by rfl)) ?_
      | refine jo_step (j_xor rfl rfl (by rfl) (by rfl)) ?_
      | refine jo_step (j_field rfl rfl (by simp only [go_sem]; rfl) (by simp only [go_sem]; rfl) (by omega) (by rfl)) ?_
      | refine jo_step (j_index rfl rfl (by simp only [go_sem]; rfl) (by simp only [go_sem]; rfl) (by rfl) (by rfl) (by omega)) ?_
      | refine jo_step (j_load rfl rfl (by simp only [go_sem]) (by rfl) (by assumption)) ?_
      | refine jo_step (j_loads rfl rfl (by simp only [go_sem]; rfl) (by rfl) (by assumption) (by rfl)) ?_
    refine jo_nil ?_
    simp only [thenJ, blockJ, putJ]
    refine ⟨n - (j + 1), _, by omega, ?_, j + 1, by omega, rfl, rfl, (hw3.trans hw34).trans hw5⟩
    rw [wrap_succ hjn hn]
    exact subJ_of (by simp only [leJ, lk, reduceIte, Nat.reduceEqDiff, true_and, and_true]; first | done | rfl)
  refine JW.skip ?_
  simp only [thenJ, blockJ]
  refine hK3 _ _ ?_; clear hK3 K3
  have hln : l < nb := by omega
  obtain ⟨a', n', c', e', hn', hbk5⟩ := hjb5
  cases e'
  obtain ⟨bd, rfl, hmb, x1, hx1⟩ := hbk5 l hln
  refine JW.seqQ fun K3 hK3 => ?_
  refine JW.block ?_
  refine JW.region_d hm (by simp only [spl, Option.map_some]; rfl) (by rfl) (by rfl) ?_
  repeat' first
      | refine jq_step (j_move (.inl rfl) rfl (by rfl)) ?_
      | refine jq_step (j_move (.inr rfl) rfl (by rfl)) ?_
      | refine jq_step (j_len rfl rfl rfl rfl (by first | (simp only [go_sem, Option.isSome_some]; done) | (simp only [go_sem]; rfl)) (by rfl)) ?_
      | refine jq_step (j_lt rfl rfl (by rfl) (by rfl)) ?_
      | refine jq_step (j_add rfl rfl (by rfl) (by rfl)) ?_
      | refine jq_step (j_xor rfl rfl (by rfl) (by rfl)) ?_
      | refine jq_step (j_field rfl rfl (by simp only [go_sem]; rfl) (by simp only [go_sem]; rfl) (by omega) (by rfl)) ?_
      | refine jq_step (j_index rfl rfl (by simp only [go_sem]; rfl) (by simp only [go_sem]; rfl) (by rfl) (by rfl) (by omega)) ?_
      | refine jq_step (j_load rfl rfl (by simp only [go_sem]) (by rfl) (by assumption)) ?_
      | refine jq_step (j_loads rfl rfl (by simp only [go_sem]; rfl) (by rfl) (by assumption) (by rfl)) ?_
  refine jq_nil ?_
  refine jo_store rfl rfl (by simp only [go_sem]) (by rfl) (by rfl) hx1 (m := m) ((Jw.drawn m w5).nf hnf5) (by simpa [add_block] using hmb) ?_
  intro w6 hw56
  refine jo_nil ?_
  simp only [thenJ, blockJ, putJ]
  refine hK3 _ _ ?_; clear hK3 K3
  refine JW.region (by rfl) ?_
  repeat' first
      | refine jo_step (j_move (.inl rfl) rfl (by rfl)) ?_
      | refine jo_step (j_move (.inr rfl) rfl (by rfl)) ?_
      | refine jo_step (j_len rfl rfl rfl rfl (by first | (simp only [go_sem, Option.isSome_some]; done) | (simp only [go_sem]; rfl)) (by rfl)) ?_
      | refine jo_step (j_lt rfl rfl (by rfl) (by rfl)) ?_
      | refine jo_step (j_add rfl rfl (by rfl) (by rfl)) ?_
      | refine jo_step (j_xor rfl rfl (by rfl) (by rfl)) ?_
      | refine jo_step (j_field rfl rfl (by simp only [go_sem]; rfl) (by simp only [go_sem]; rfl) (by omega) (by rfl)) ?_
      | refine jo_step (j_index rfl rfl (by simp only [go_sem]; rfl) (by simp only [go_sem]; rfl) (by rfl) (by rfl) (by omega)) ?_
      | refine jo_step (j_load rfl rfl (by simp only [go_sem]) (by rfl) (by assumption)) ?_
      | refine jo_step (j_loads rfl rfl (by simp only [go_sem]; rfl) (by rfl) (by assumption) (by rfl)) ?_
  refine jo_nil ?_
  simp only [thenJ, blockJ, putJ]
  refine ⟨nb - (l + 1), _, by omega, ?_, l + 1, by omega, rfl, rfl, hw5.trans ((Jw.drawn m w5).trans hw56)⟩
  rw [wrap_succ hln hnb]
  exact subJ_of (by simp only [leJ, lk, reduceIte, Nat.reduceEqDiff, true_and, and_true]; first | done | rfl)
end Go.Proofs.Bo
