/-
  PROVED: garlandlaw08.BagOwn returns true for every bag, every datagram and every two places, and what was handed in reads behind the call as it read before. CONDITIONS: none beyond those of the given row (Rows.BagOwnSaid).
-/
import Derived.Test.YteloibaggcihnaaWS
import Derived.Test.YteloibaggcihnaaAbE
import Derived.Test.YteloibaggcihnaaRows
set_option linter.all false
set_option linter.unusedVariables false
set_option linter.unusedSimpArgs false

namespace Go.Proofs.Yteloibaggcihnaa
open Go Go.Abs Go.Proofs.Bo
open Go.ChangeShapes Go.WideShapes Go.ChangeAt Go.RowKit

theorem own : ownKnob Try.prog.godebug = none := by kernel_rfl
theorem laidOut : laidOutB Try.prog = true := by kernel_rfl
theorem cells27 : Try.prog.cellsOf 27 = 3 := by kernel_rfl
theorem cells24 : Try.prog.cellsOf 24 = 2 := by kernel_rfl
theorem cells22 : Try.prog.cellsOf 22 = 1 := by kernel_rfl
theorem cells25 : Try.prog.cellsOf 25 = 1 := by kernel_rfl
theorem cells5 : Try.prog.cellsOf 5 = 1 := by kernel_rfl
theorem cells3 : Try.prog.cellsOf 3 = 1 := by kernel_rfl
theorem cells4 : Try.prog.cellsOf 4 = 1 := by kernel_rfl

section
variable {H : Type} {enc : TypeId × Value → H} {w : World} {base : Nat} {spare : Nat → Bool} {held : Bool}

theorem open_bytes {n : Nat} {cs : List Value} {x : DataW H × List MemPlace} (h : DataW.trod enc Try.prog w base spare held n 25 cs = some x) : ∃ l : List UInt8, R (Ih w) w (.lst 1 (l.map eB)) cs :=
  open_slice' Try.underlying25 cells5 (by omega) eB (fun n cs x h => by
    obtain ⟨y, rfl⟩ := open_u8' Try.underlying5 h
    refine ⟨y, ?_, by simp [Value.oneCell']⟩
    simp only [eB, Rs, R]
    exact ⟨_, [], rfl, rfl, rfl⟩) h

theorem open_gram {n : Nat} {cs : List Value} {x : DataW H × List MemPlace} (h : DataW.trod enc Try.prog w base spare held n 27 cs = some x) : ∃ g : Gram, Rs (Ih w) w (eGram g) cs ∧ ∀ v ∈ cs, v.oneCell' = true := by
  obtain ⟨xs, k, _, _, hl, hxl, hf⟩ := DataW.trod_struct Try.underlying27 h
  rw [cells27] at hl
  obtain ⟨c0, c1, c2, rfl⟩ : ∃ a b c, cs = [a, b, c] := by
    match cs, hl with
    | [a, b, c], _ => exact ⟨a, b, c, rfl⟩
  have hx : xs.length = 3 := hxl
  have h0 : DataW.trod enc Try.prog w base spare held k 3 (List.take (Try.prog.cellsOf 3) (List.drop 0 [c0, c1, c2])) = xs[0]? := hf 0 _ rfl
  have h1 : DataW.trod enc Try.prog w base spare held k 25 (List.take (Try.prog.cellsOf 25) (List.drop 1 [c0, c1, c2])) = xs[1]? := hf 1 _ rfl
  have h2 : DataW.trod enc Try.prog w base spare held k 4 (List.take (Try.prog.cellsOf 4) (List.drop 2 [c0, c1, c2])) = xs[2]? := hf 2 _ rfl
  rw [cells3, List.getElem?_eq_getElem (by omega)] at h0
  rw [cells25, List.getElem?_eq_getElem (by omega)] at h1
  rw [cells4, List.getElem?_eq_getElem (by omega)] at h2
  obtain ⟨to, e0, _, _⟩ := DataW.trod_int Try.underlying3 h0
  obtain ⟨l, r1⟩ := open_bytes h1
  obtain ⟨b, e2, _⟩ := DataW.trod_bool Try.underlying4 h2
  simp only [List.drop_zero, List.take_succ_cons, List.take_zero, List.cons.injEq, and_true, List.drop_succ_cons] at e0 e2 r1
  subst e0; subst e2
  have r1' := r1
  simp only [R, List.cons.injEq, and_true] at r1
  obtain ⟨a, cap, rfl, _⟩ := r1
  refine ⟨⟨to, l, b⟩, ?_, by simp [Value.oneCell']⟩
  show Rs _ w [.int .i64 to, .lst 1 (l.map eB), .bool b] _
  simp only [Rs]
  exact ⟨[_], _, rfl, by simp only [R], [_], _, rfl, r1', [_], [], rfl, by simp only [R], rfl⟩

theorem open_bag {n : Nat} {cs : List Value} {x : DataW H × List MemPlace} (h : DataW.trod enc Try.prog w base spare held n 24 cs = some x) : ∃ b : Bag, Rs (Ih w) w (eBag b) cs ∧ ∀ v ∈ cs, v.oneCell' = true := by
  obtain ⟨xs, k, _, _, hl, hxl, hf⟩ := DataW.trod_struct Try.underlying24 h
  rw [cells24] at hl
  obtain ⟨c0, c1, rfl⟩ : ∃ a b, cs = [a, b] := by
    match cs, hl with
    | [a, b], _ => exact ⟨a, b, rfl⟩
  have hx : xs.length = 2 := hxl
  have h0 : DataW.trod enc Try.prog w base spare held k 22 (List.take (Try.prog.cellsOf 22) (List.drop 0 [c0, c1])) = xs[0]? := hf 0 _ rfl
  have h1 : DataW.trod enc Try.prog w base spare held k 3 (List.take (Try.prog.cellsOf 3) (List.drop 1 [c0, c1])) = xs[1]? := hf 1 _ rfl
  rw [cells22, List.getElem?_eq_getElem (by omega)] at h0
  rw [cells3, List.getElem?_eq_getElem (by omega)] at h1
  obtain ⟨l, r0⟩ := open_slice' Try.underlying22 cells27 (by omega) eGram (fun _ _ _ h => open_gram h) h0
  obtain ⟨lost, e1, _, _⟩ := DataW.trod_int Try.underlying3 h1
  simp only [List.drop_zero, List.take_succ_cons, List.take_zero, List.cons.injEq, and_true, List.drop_succ_cons] at r0 e1
  subst e1
  have r0' := r0
  simp only [R, List.cons.injEq, and_true] at r0
  obtain ⟨a, cap, rfl, _⟩ := r0
  refine ⟨⟨l, lost⟩, ?_, by simp [Value.oneCell']⟩
  show Rs _ w [.lst 3 (l.map eGram), .int .i64 lost] _
  simp only [Rs]
  exact ⟨[_], _, rfl, r0', [_], [], rfl, by simp only [R], rfl⟩
end

set_option maxRecDepth 100000 in
theorem bagOwn_lifted (os : Os) (started : os.Started) (H : Type) (enc : TypeId × Value → H) :
    ReturnsInHanded {} Try.checked os 3 .any (Rows.bagOwnSpec.pre6 enc Try.prog Try.f3 Rows.bagOwnRow.domain false) (Rows.bagOwnSpec.post enc Try.prog Try.f3 false true false false) := by
  refine returnsInHanded_of_change (C := Try.checked) own started (by kernel_rfl) Try.func3
    (ChangeSpec.witness6 (enc := enc) (C := Try.checked) false ⟨#[], #[.agg #[.slice none 0 0, .int .i64 0], .agg #[.int .i64 0, .slice none 0 0, .bool false], .int .i64 0, .int .i64 0], []⟩ 8 (by kernel_rfl) (by kernel_rfl) (by kernel_rfl) (by kernel_rfl)) ?_
  intro W base args ds gs before hval0 hW hcnd _
  have hval : ∀ (j : Nat) t v, Try.f3.params[j]? = some t → args[j]? = some v → Value.okWide Try.prog W .any base t v := hval0
  have hW' := hW
  obtain ⟨p, q, hA0, hV, rfl, hfz, hnd⟩ := hW
  have hA : DataW.TrodAll enc Try.prog W 0 (fun _ => true) true Try.f3.params.toList args.toList ds p := hA0
  rw [Try.params3] at hA hval
  obtain ⟨v0, vs0, d0, ds0, p0, q0, hargs, rfl, rfl, h0, r0⟩ := trodAll_cons hA
  obtain ⟨v1, vs1, d1, ds1, p1, q1, rfl, rfl, rfl, h1, r1⟩ := trodAll_cons r0
  obtain ⟨v2, vs2, d2, ds2, p2, q2, rfl, rfl, rfl, h2, r2⟩ := trodAll_cons r1
  obtain ⟨v3, vs3, d3, ds3, p3, q3, rfl, rfl, rfl, h3, r3⟩ := trodAll_cons r2
  obtain ⟨rfl, rfl, rfl⟩ := trodAll_nil r3
  obtain rfl : args = #[v0, v1, v2, v3] := by cases args; simp_all
  obtain ⟨rfl, rfl⟩ := trodVars_none hV
  have lt0 : ∀ x ∈ p0, x.block < W.heap.size := by obtain ⟨m, hm⟩ := h0; exact DataW.trod_lt m _ _ _ hm
  have lt1 : ∀ x ∈ p1, x.block < W.heap.size := by obtain ⟨m, hm⟩ := h1; exact DataW.trod_lt m _ _ _ hm
  obtain ⟨b, hb⟩ := open_agg Try.underlying24 (hval 0 24 v0 rfl rfl) h0 eBag fun _ _ _ h => open_bag h
  obtain ⟨g, hg⟩ := open_agg Try.underlying27 (hval 1 27 v1 rfl rfl) h1 eGram fun _ _ _ h => open_gram h
  obtain ⟨k, rfl, rfl, rfl, wk⟩ := open_int Try.underlying3 (hval 2 3 v2 rfl rfl) h2
  obtain ⟨i, rfl, rfl, rfl, wi⟩ := open_int Try.underlying3 (hval 3 3 v3 rfl rfl) h3
  clear hA0 hval0
  refine ((f3_c b g k i).2 (Ih W) W #[v0, v1, .int .i64 k, .int .i64 i] (fun _ h => h) ?_).mono fun e W' he => ?_
  · simp only [REs, R]
    exact ⟨_, _, rfl, by simpa only [R] using hb, _, _, rfl, by simpa only [R] using hg, _, _, rfl, rfl, _, _, rfl, rfl, rfl⟩
  obtain ⟨v, J, rfl, _, hr, bel, _⟩ := he
  simp only [R, List.cons.injEq, and_true] at hr
  subst hr
  exact ⟨_, rfl, _, _, _, [], _, [], hW', trodAll_mk1 (shut_bool Try.underlying4 _), (trodAll_cons_mk (Below.trod laidOut (by kernel_rfl) (of_decide_eq_true (by kernel_rfl)) h0 bel lt0) (trodAll_cons_mk (Below.trod laidOut (by kernel_rfl) (of_decide_eq_true (by kernel_rfl)) h1 bel lt1) (trodAll_cons_mk (shut_int Try.underlying3 wk) (trodAll_cons_mk (shut_int Try.underlying3 wi) trodAll_mk0)))), rfl, bel.frame _, fun h => by cases h⟩

theorem bagOwn_holds : Rows.BagOwnSaid :=
  OpenClaim.holds_of_wide 3 Try.f3 rfl rfl rfl rfl rfl rfl rfl ⟨rfl, rfl, rfl, rfl, rfl⟩ rfl rfl rfl rfl rfl (by kernel_rfl) Try.func3 (by kernel_rfl)
    (of_decide_eq_true (by kernel_rfl)) (by unfold Func.isWrapper; first | (rw [if_pos (by decide +kernel)]; kernel_rfl) | (rw [if_neg (by decide +kernel)]; exact ⟨rfl, rfl⟩))
    (fun os started H enc _ => bagOwn_lifted os started H enc)

#print axioms bagOwn_holds
end Go.Proofs.Yteloibaggcihnaa
