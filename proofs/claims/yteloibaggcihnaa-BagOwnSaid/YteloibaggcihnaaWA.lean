/-
  A part of the walk of garlandlaw08.BagOwn.
-/
import Derived.Test.YteloibaggcihnaaFacts
set_option linter.all false
set_option linter.unusedVariables false
set_option linter.unusedSimpArgs false

namespace Go.Proofs.Bo
open Go Go.Abs
attribute [local irreducible] AWP vops vopsD

@[go_sem] def rGram (g : Gram) : AV := .agg [.p (.int .i64 g.to), .hs 0 g.bytes.length, .p (.bool g.harmed)]
@[go_sem] def bGram (g : Gram) : List ABlk := [.list 5 1 (g.bytes.map eB) false true]

set_option maxHeartbeats 400000 in
theorem refown_c (g : Gram) (hl : g.bytes.length ≤ 1000000) : ANew Try.prog false 17 [.agg (eGram g)] (rGram g) (bGram g) := by
  refine ANew.of_AWP hZ Try.func17 rfl (by kernel_rfl) (rs := _) (by rw [Try.results17]) Try.ntmps17 (by simp) (by rfl) (by simp [go_sem, rGram, bGram]) ?_
  simp only [go_sem, eGram, eBag]
  repeat' first
          | (exfalso; omega)
          | (show AWP _ _ _ _ _ _; first
                  | (refine AWP.seq_k fun K hK => ?_)
                  | (refine AWP.region hZ false (by rfl) ?_)
                  | (refine AWP.region_d hZ false hm (by rfl) (by simp only [List.length_cons, List.length_nil, Nat.reduceAdd]; rfl) ?_)
                  | (refine AWP.ret ?_; simp only [go_sem, Int.cast_ofNat_Int, Int.natCast_add, Int.natCast_one, Int.reduceToNat, List.replicate_zero, Option.isNone_none, Option.isNone_some, Nat.reduceBEq, List.size_toArray, Nat.reduceMul, Nat.reduceLT, Nat.zero_mul, Nat.one_mul, Nat.mul_one, Nat.zero_le, Nat.zero_lt_one, reduceIte, Int.reduceEq, Nat.reduceEqDiff, Nat.reduceAdd, Nat.reduceSub, Nat.reduceLeDiff, Int.reduceNeg, shA, shAs, addB, List.append_eq, eGram, eBag, eB_flats, List.getElem?_map, List.map_append, List.map_cons, List.map_nil, List.getElem?_append_left, cond_true, cond_false, Bool.cond_true, Bool.cond_false])
                  | (refine AWP.skip ?_; (try simp only [thenQ, blockQ, scopeQ, noGotoQ]))
                  | (refine AWP.block ?_)
                  | (refine AWP.exit ?_; simp only [thenQ, blockQ, scopeQ, noGotoQ, if_true, reduceIte])
                  | (refine AWP.cond rfl (fun hc => ?_) (fun hc => ?_) <;> (try simp only [decide_eq_true_eq, decide_eq_false_iff_not, bne_iff_ne, ne_eq, bne_eq_false_iff_eq, beq_iff_eq, beq_eq_false_iff_ne, Bool.not_eq_true, Bool.not_eq_false, Int.natCast_inj, Bool.not_eq_eq_eq_not, Bool.not_true, Bool.not_false, Decidable.not_not, reduceCtorEq, Bool.false_eq_true] at hc)))
          | (show vops _ _ _ _ _ _ _; first
                  | (refine vs_nil ?_; (try simp only [thenQ, blockQ, scopeQ, noGotoQ]))
                  | (refine vs_some rfl rfl rfl (by simp only [go_sem, Int.cast_ofNat_Int, Int.natCast_add, Int.natCast_one, Int.reduceToNat, List.replicate_zero, Option.isNone_none, Option.isNone_some, Nat.reduceBEq, List.size_toArray, Nat.reduceMul, Nat.reduceLT, Nat.zero_mul, Nat.one_mul, Nat.mul_one, Nat.zero_le, Nat.zero_lt_one, reduceIte, Int.reduceEq, Nat.reduceEqDiff, Nat.reduceAdd, Nat.reduceSub, Nat.reduceLeDiff, Int.reduceNeg, shA, shAs, addB, List.append_eq, eGram, eBag, eB_flats, List.getElem?_map, List.map_append, List.map_cons, List.map_nil, List.getElem?_append_left, cond_true, cond_false, Bool.cond_true, Bool.cond_false]; rfl) (by simp only [go_sem, Nat.reduceAdd]; rfl) ?_ ?_)
                  | (refine vs_none rfl rfl rfl (by simp only [go_sem, Int.cast_ofNat_Int, Int.natCast_add, Int.natCast_one, Int.reduceToNat, List.replicate_zero, Option.isNone_none, Option.isNone_some, Nat.reduceBEq, List.size_toArray, Nat.reduceMul, Nat.reduceLT, Nat.zero_mul, Nat.one_mul, Nat.mul_one, Nat.zero_le, Nat.zero_lt_one, reduceIte, Int.reduceEq, Nat.reduceEqDiff, Nat.reduceAdd, Nat.reduceSub, Nat.reduceLeDiff, Int.reduceNeg, shA, shAs, addB, List.append_eq, eGram, eBag, eB_flats, List.getElem?_map, List.map_append, List.map_cons, List.map_nil, List.getElem?_append_left, cond_true, cond_false, Bool.cond_true, Bool.cond_false]; rfl) (by simp only [go_sem, Nat.reduceAdd]; rfl) ?_ ?_)
                  | (refine vs_g rfl rfl rfl rfl (by simp only [go_sem, Nat.reduceAdd]; rfl) (fun hb => ?_) (fun hb => ?_) <;> (try simp only [decide_eq_true_eq, decide_eq_false_iff_not, bne_iff_ne, ne_eq, bne_eq_false_iff_eq, beq_iff_eq, beq_eq_false_iff_ne, Bool.not_eq_true, Bool.not_eq_false, Int.natCast_inj, Bool.not_eq_eq_eq_not, Bool.not_true, Bool.not_false, Decidable.not_not, reduceCtorEq, Bool.false_eq_true] at hb)))
          | (show vopsD _ _ _ _ _ _ _ _ _; first
                  | (refine vd_nil ?_; refine And.intro (by rfl) ?_; (try simp only [thenQ, blockQ, scopeQ, noGotoQ]))
                  | (refine vd_some rfl rfl rfl (by simp only [go_sem, Int.cast_ofNat_Int, Int.natCast_add, Int.natCast_one, Int.reduceToNat, List.replicate_zero, Option.isNone_none, Option.isNone_some, Nat.reduceBEq, List.size_toArray, Nat.reduceMul, Nat.reduceLT, Nat.zero_mul, Nat.one_mul, Nat.mul_one, Nat.zero_le, Nat.zero_lt_one, reduceIte, Int.reduceEq, Nat.reduceEqDiff, Nat.reduceAdd, Nat.reduceSub, Nat.reduceLeDiff, Int.reduceNeg, shA, shAs, addB, List.append_eq, eGram, eBag, eB_flats, List.getElem?_map, List.map_append, List.map_cons, List.map_nil, List.getElem?_append_left, cond_true, cond_false, Bool.cond_true, Bool.cond_false]; rfl) (by simp only [go_sem, Nat.reduceAdd]; rfl) (by simp only [go_sem, Int.cast_ofNat_Int, Int.natCast_add, Int.natCast_one, Int.reduceToNat, List.replicate_zero, Option.isNone_none, Option.isNone_some, Nat.reduceBEq, List.size_toArray, Nat.reduceMul, Nat.reduceLT, Nat.zero_mul, Nat.one_mul, Nat.mul_one, Nat.zero_le, Nat.zero_lt_one, reduceIte, Int.reduceEq, Nat.reduceEqDiff, Nat.reduceAdd, Nat.reduceSub, Nat.reduceLeDiff, Int.reduceNeg, shA, shAs, addB, List.append_eq, eGram, eBag, eB_flats, List.getElem?_map, List.map_append, List.map_cons, List.map_nil, List.getElem?_append_left, cond_true, cond_false, Bool.cond_true, Bool.cond_false]; rfl) ?_ ?_)
                  | (refine vd_none rfl rfl rfl (by simp only [go_sem, Int.cast_ofNat_Int, Int.natCast_add, Int.natCast_one, Int.reduceToNat, List.replicate_zero, Option.isNone_none, Option.isNone_some, Nat.reduceBEq, List.size_toArray, Nat.reduceMul, Nat.reduceLT, Nat.zero_mul, Nat.one_mul, Nat.mul_one, Nat.zero_le, Nat.zero_lt_one, reduceIte, Int.reduceEq, Nat.reduceEqDiff, Nat.reduceAdd, Nat.reduceSub, Nat.reduceLeDiff, Int.reduceNeg, shA, shAs, addB, List.append_eq, eGram, eBag, eB_flats, List.getElem?_map, List.map_append, List.map_cons, List.map_nil, List.getElem?_append_left, cond_true, cond_false, Bool.cond_true, Bool.cond_false]; rfl) (by simp only [go_sem, Nat.reduceAdd]; rfl) (by simp only [go_sem, Int.cast_ofNat_Int, Int.natCast_add, Int.natCast_one, Int.reduceToNat, List.replicate_zero, Option.isNone_none, Option.isNone_some, Nat.reduceBEq, List.size_toArray, Nat.reduceMul, Nat.reduceLT, Nat.zero_mul, Nat.one_mul, Nat.mul_one, Nat.zero_le, Nat.zero_lt_one, reduceIte, Int.reduceEq, Nat.reduceEqDiff, Nat.reduceAdd, Nat.reduceSub, Nat.reduceLeDiff, Int.reduceNeg, shA, shAs, addB, List.append_eq, eGram, eBag, eB_flats, List.getElem?_map, List.map_append, List.map_cons, List.map_nil, List.getElem?_append_left, cond_true, cond_false, Bool.cond_true, Bool.cond_false]; rfl) ?_ ?_)
                  | (refine vd_g rfl rfl rfl rfl (by simp only [go_sem, Nat.reduceAdd]; rfl) (by simp only [go_sem, Int.cast_ofNat_Int, Int.natCast_add, Int.natCast_one, Int.reduceToNat, List.replicate_zero, Option.isNone_none, Option.isNone_some, Nat.reduceBEq, List.size_toArray, Nat.reduceMul, Nat.reduceLT, Nat.zero_mul, Nat.one_mul, Nat.mul_one, Nat.zero_le, Nat.zero_lt_one, reduceIte, Int.reduceEq, Nat.reduceEqDiff, Nat.reduceAdd, Nat.reduceSub, Nat.reduceLeDiff, Int.reduceNeg, shA, shAs, addB, List.append_eq, eGram, eBag, eB_flats, List.getElem?_map, List.map_append, List.map_cons, List.map_nil, List.getElem?_append_left, cond_true, cond_false, Bool.cond_true, Bool.cond_false]; rfl) (fun hb => ?_) (fun hb => ?_) <;> (try simp only [decide_eq_true_eq, decide_eq_false_iff_not, bne_iff_ne, ne_eq, bne_eq_false_iff_eq, beq_iff_eq, beq_eq_false_iff_ne, Bool.not_eq_true, Bool.not_eq_false, Int.natCast_inj, Bool.not_eq_eq_eq_not, Bool.not_true, Bool.not_false, Decidable.not_not, reduceCtorEq, Bool.false_eq_true] at hb)))
          | (refine hK _ ?_; clear hK K)
          | (clear hK K; refine hK _ ?_; clear hK K)
          | (clear hK K; clear hK K; refine hK _ ?_; clear hK K)
          | (refine And.intro ?_ ?_)
          | (omega)
          | (trivial)
end Go.Proofs.Bo
