/-
  A part of the walk of garlandlaw08.BagOwn.
-/
import Derived.Test.YteloibaggcihnaaWP
set_option linter.all false
set_option linter.unusedVariables false
set_option linter.unusedSimpArgs false

namespace Go.Proofs.Bo
open Go Go.Abs

set_option maxHeartbeats 400000 in
theorem loops1 {m : Nat} {w : World} {p : Addr} {bv v4 v5 v9 v10 : Value} (hnf : NF m w) (hbv : w.cell? (p.add 1) = some bv) (hjb : JBy w m bv) :
    JW Try.prog 165 (hd (sk 10 (Try.f3.body.getD .skip))) [(4, v4), (5, v5), (9, v9), (10, v10), (13, .pointer (some p))] w (fun x e' w' => x = .normal ∧ Jw m w w' ∧ subJ [(4, v4), (5, v5), (9, v9), (10, v10)] e') := by
  obtain ⟨ab, nb, cb, rfl, hnb, hbk⟩ := id hjb
  refine JW.seqQ fun K hK => ?_
  refine JW.region (by rfl) ?_
  repeat' first
      | refine jo_step (j_move (.inl rfl) rfl (by rfl)) ?_
      | refine jo_step (j_move (.inr rfl) rfl (by rfl)) ?_
      | refine jo_step (j_len rfl rfl rfl rfl (by first | (simp only [go_sem, Option.isSome_some]; done) | (simp only [go_sem]; rfl)) (by rfl)) ?_
      | refine jo_step (j_lt rfl rfl (by rfl) (by rfl)) ?_
      | refine jo_step (j_add rfl rfl (by rfl) (by rfl)) ?_
      | refine jo_step (j_xor rfl rfl (by rfl) (by rfl)) ?_
      | refine jo_step (j_field rfl rfl (by simp only [go_sem]; rfl) (by simp only [go_sem]; rfl) (by omega) (by rfl)) ?_
      | refine jo_step (j_index rfl rfl (by simp only [go_sem]; rfl) (by simp only [go_sem]; rfl) (by rfl) (by rfl) (by omega)) ?_
      | refine jo_step (j_load rfl rfl (by simp only [go_sem]) (by rfl) (by assumption)) ?_
      | refine jo_step (j_loads rfl rfl (by simp only [go_sem]; rfl) (by rfl) (by assumption) (by rfl)) ?_
  refine jo_nil ?_
  simp only [thenJ, blockJ, putJ]
  refine hK _ _ ?_; clear hK K
  refine JW.block ?_
  refine JW.loop (fun k e' w' => ∃ l, l ≤ nb ∧ k = nb - l ∧ e' = (25, .int .i64 ((l : Nat) : Int)) :: [(4, v4), (5, v5), (9, v9), (10, v10), (13, .pointer (some p))] ∧ Jw m w w') ⟨_, _, subJ_of (by simp only [leJ, lk, reduceIte, Nat.reduceEqDiff, true_and, and_true]; first | done | rfl), 0, by omega, rfl, rfl, Jw.refl _ _⟩ ?_
  rintro k e w5 ⟨l, hl, rfl, rfl, hw5⟩
  have hjb5 := hjb.mono hw5
  have hnf5 := hw5.nf hnf
  have hbv5 := hw5.same hbv (by intro k x e; cases e)
  refine JW.seqQ fun K3 hK3 => ?_
  refine JW.seqQ fun K4 hK4 => ?_
  refine JW.region (by rfl) ?_
  repeat' first
      | refine jo_step (j_move (.inl rfl) rfl (by rfl)) ?_
      | refine jo_step (j_move (.inr rfl) rfl (by rfl)) ?_
      | refine jo_step (j_len rfl rfl rfl rfl (by first | (simp only [go_sem, Option.isSome_some]; done) | (simp only [go_sem]; rfl)) (by rfl)) ?_
      | refine jo_step (j_lt rfl rfl (by rfl) (by rfl)) ?_
      | refine jo_step (j_add rfl rfl (by rfl) (by rfl)) ?_
      | refine jo_step (j_xor rfl rfl (by rfl) (by rfl)) ?_
      | refine jo_step (j_field rfl rfl (by simp only [go_sem]; rfl) (by simp only [go_sem]; rfl) (by omega) (by rfl)) ?_
      | refine jo_step (j_index rfl rfl (by simp only [go_sem]; rfl) (by simp only [go_sem]; rfl) (by rfl) (by rfl) (by omega)) ?_
      | refine jo_step (j_load rfl rfl (by simp only [go_sem]) (by rfl) (by assumption)) ?_
      | refine jo_step (j_loads rfl rfl (by simp only [go_sem]; rfl) (by rfl) (by assumption) (by rfl)) ?_
  refine jo_nil ?_
  simp only [thenJ, blockJ, putJ]
  refine hK4 _ _ ?_; clear hK4 K4
  refine JW.cond (by rfl) (fun hcl => ?_) (fun hcl => ?_) <;> simp only [decide_eq_true_eq, decide_eq_false_iff_not] at hcl
  rotate_left
  · refine JW.exit ?_
    simp only [thenJ, blockJ, if_true]
    exact ⟨by trivial, hw5, subJ_of (by simp only [leJ, lk, reduceIte, Nat.reduceEqDiff, true_and, and_true]; first | done | rfl)⟩
  refine JW.skip ?_
  simp only [thenJ, blockJ]
  refine hK3 _ _ ?_; clear hK3 K3
  have hln : l < nb := by omega
  obtain ⟨a', n', c', e', hn', hbk5⟩ := hjb5
  cases e'
  obtain ⟨bd, rfl, hmb, x1, hx1⟩ := hbk5 l hln
  refine JW.seqQ fun K3 hK3 => ?_
  refine JW.block ?_
  refine JW.region_d hm (by simp only [spl, Option.map_some]; rfl) (by rfl) (by rfl) ?_
  repeat' first
      | refine jq_step (j_move (.inl rfl) rfl (by rfl)) ?_
      | refine jq_step (j_move (.inr rfl) rfl (by rfl)) ?_
      | refine jq_step (j_len rfl rfl rfl rfl (by first | (simp only [go_sem, Option.isSome_some]; done) | (simp only [go_sem]; rfl)) (by rfl)) ?_
      | refine jq_step (j_lt rfl rfl (by rfl) (by rfl)) ?_
      | refine jq_step (j_add rfl rfl (by rfl) (by rfl)) ?_
      | refine jq_step (j_xor rfl rfl (by rfl) (by rfl)) ?_
      | refine jq_step (j_field rfl rfl (by simp only [go_sem]; rfl) (by simp only [go_sem]; rfl) (by omega) (by rfl)) ?_
      | refine jq_step (j_index rfl rfl (by simp only [go_sem]; rfl) (by simp only [go_sem]; rfl) (by rfl) (by rfl) (by omega)) ?_
      | refine jq_step (j_load rfl rfl (by simp only [go_sem]) (by rfl) (by assumption)) ?_
      | refine jq_step (j_loads rfl rfl (by simp only [go_sem]; rfl) (by rfl) (by assumption) (by rfl)) ?_
  refine jq_nil ?_
  refine jo_store rfl rfl (by simp only [go_sem]) (by rfl) (by rfl) hx1 (m := m) ((Jw.drawn m w5).nf hnf5) (by simpa [add_block] using hmb) ?_
  intro w6 hw56
  refine jo_nil ?_
  simp only [thenJ, blockJ, putJ]
  refine hK3 _ _ ?_; clear hK3 K3
  refine JW.region (by rfl) ?_
  repeat' first
      | refine jo_step (j_move (.inl rfl) rfl (by rfl)) ?_
      | refine jo_step (j_move (.inr rfl) rfl (by rfl)) ?_
      | refine jo_step (j_len rfl rfl rfl rfl (by first | (simp only [go_sem, Option.isSome_some]; done) | (simp only [go_sem]; rfl)) (by rfl)) ?_
      | refine jo_step (j_lt rfl rfl (by rfl) (by rfl)) ?_
      | refine jo_step (j_add rfl rfl (by rfl) (by rfl)) ?_
      | refine jo_step (j_xor rfl rfl (by rfl) (by rfl)) ?_
      | refine jo_step (j_field rfl rfl (by simp only [go_sem]; rfl) (by simp only [go_sem]; rfl) (by omega) (by rfl)) ?_
      | refine jo_step (j_index rfl rfl (by simp only [go_sem]; rfl) (by simp only [go_sem]; rfl) (by rfl) (by rfl) (by omega)) ?_
      | refine jo_step (j_load rfl rfl (by simp only [go_sem]) (by rfl) (by assumption)) ?_
      | refine jo_step (j_loads rfl rfl (by simp only [go_sem]; rfl) (by rfl) (by assumption) (by rfl)) ?_
  refine jo_nil ?_
  simp only [thenJ, blockJ, putJ]
  refine ⟨nb - (l + 1), _, by omega, ?_, l + 1, by omega, rfl, rfl, hw5.trans ((Jw.drawn m w5).trans hw56)⟩
  rw [wrap_succ hln hnb]
  exact subJ_of (by simp only [leJ, lk, reduceIte, Nat.reduceEqDiff, true_and, and_true]; first | done | rfl)
end Go.Proofs.Bo
