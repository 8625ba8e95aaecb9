/-
  A part of the walk of garlandlaw08.BagOwn.
-/
import Derived.Test.YteloibaggcihnaaWQ
set_option linter.all false
set_option linter.unusedVariables false
set_option linter.unusedSimpArgs false

namespace Go.Proofs.Bo
open Go Go.Abs

theorem by_of {J : Nat → Prop} {w : World} {m : Nat} {l : List UInt8} {v : Value} (hJ : ∀ b, J b → m ≤ b) (hl : l.length ≤ 1000000) (h : R J w (.lst 1 (l.map eB)) [v]) : JBy w m v := by
  simp only [R] at h
  obtain ⟨a, cap, e, _, hr⟩ := h
  simp only [List.cons.injEq, and_true] at e
  subst e
  refine ⟨a, _, cap, rfl, by simpa using hl, fun j hj => ?_⟩
  have hx : (l.map eB)[j]? = some (eB (l[j]'(by simpa using hj))) := by simp at hj; simp [hj]
  obtain ⟨ad, us, ea, hi, _, hat, hrs⟩ := hr.get hx
  simp only [eB, Rs, R] at hrs
  obtain ⟨v1, v2, e1, rfl, rfl⟩ := hrs
  subst e1
  have h0 := hat.1 0 _ rfl
  rw [add_add, Nat.zero_add, Nat.add_zero] at h0
  exact ⟨ad, ea, hJ _ hi, _, h0⟩

theorem gr_of {J : Nat → Prop} {w : World} {m : Nat} {l : List Gram} {v : Value} (hJ : ∀ b, J b → m ≤ b) (hl : l.length ≤ 1000000) (hb : ∀ g ∈ l, g.bytes.length ≤ 1000000) (h : R J w (.lst 3 (l.map eGram)) [v]) : JGr w m v := by
  simp only [R] at h
  obtain ⟨a, cap, e, _, hr⟩ := h
  simp only [List.cons.injEq, and_true] at e
  subst e
  refine ⟨a, _, cap, rfl, by simpa using hl, fun j hj => ?_⟩
  have hj' : j < l.length := by simpa using hj
  have hx : (l.map eGram)[j]? = some (eGram l[j]) := by simp [hj']
  have hbl := hb _ (List.getElem_mem hj')
  generalize l[j] = g at hx hbl
  obtain ⟨ad, us, ea, hi, _, hat, hrs⟩ := hr.get hx
  rw [show eGram g = [.int .i64 g.to, .lst 1 (g.bytes.map eB), .bool g.harmed] from rfl] at hrs
  simp only [Rs] at hrs
  obtain ⟨v1, v2, e1, h1, v3, v4, e2, h2, v5, v6, e3, h3, e4⟩ := hrs
  have hw := h2.width
  simp only [R] at h1 h3
  subst h1; subst h3
  simp only [wd] at hw
  obtain ⟨bv, rfl⟩ := List.length_eq_one_iff.1 hw
  subst e1; subst e2
  rw [Nat.zero_add] at hat
  exact ⟨ad, ea, hJ _ hi, ⟨_, hat.1 0 _ rfl⟩, bv, hat.1 1 _ rfl, by_of hJ hbl h2⟩

theorem by_own {I : Nat → Prop} {g : Gh} {w : World} {D : Nat → Nat → Prop} {h : Heap} {id m : Nat} {l : List UInt8} {v : Value} {fro fl : Bool} (ok : HOk D I g w h) (hx : hlook h id = some (.list 5 1 (l.map eB) fro fl)) (hm : m ≤ g.b0) (hl : l.length ≤ 1000000) (hv : RA I g w (.hs id l.length) [v]) : JBy w m v := by
  obtain ⟨vals, ho, hrc, hk, _⟩ := ok.blk id _ hx
  simp only [RA] at hv
  obtain ⟨a, c, e, hh⟩ := hv
  simp only [List.cons.injEq, and_true] at e
  subst e
  rw [List.length_map] at ho hk
  refine ⟨a, _, c, rfl, hl, fun j hj => ?_⟩
  have hx' : (l.map eB)[j]? = some (eB l[j]) := by simp [hj]
  cases a with
  | none =>
    exfalso
    rcases ho.2 with ⟨e3, hn0⟩ | ⟨gb, cap, cur, e3, _⟩
    · omega
    · rw [hh] at e3; cases e3
  | some ad =>
    obtain ⟨hat, _⟩ := ownsRow_at ho hh
    obtain ⟨us, hus, hul, hru⟩ := hrc.get hx'
    simp only [eB, Rs, R] at hru
    obtain ⟨v1, v2, e1, rfl, rfl⟩ := hru
    subst e1
    have h0 := (hat.sub (j * 1) 1)
    rw [hus] at h0
    have h1 := h0 0 _ rfl
    rw [add_add, Nat.add_zero] at h1
    have hkb := (hk ad.block (by rw [hh]; rfl)).2
    exact ⟨ad, rfl, by omega, _, h1⟩

/-- what is told, in new memory -/
def bigG (b : List Gram) : Prop := b.length ≤ 1000000 ∧ ∀ g ∈ b, g.bytes.length ≤ 1000000

theorem bags_of {I : Nat → Prop} {g : Gh} {w : World} {D : Nat → Nat → Prop} {h : Heap} {id m : Nat} {l : List Bag} {v : Value} {fro : Bool} (ok : HOk D I g w h) (hx : hlook h id = some (.list 24 2 (l.map eBag) fro true)) (hm : m ≤ g.b0) (hl : l.length = 6) (hb : ∀ b ∈ l, bigG b.grams) (hv : RA I g w (.hs id 6) [v]) :
    ∃ A c, v = .slice (some A) 6 c ∧ JBags w m A := by
  obtain ⟨vals, ho, hrc, hk, _⟩ := ok.blk id _ hx
  simp only [RA] at hv
  obtain ⟨a, c, e, hh⟩ := hv
  simp only [List.cons.injEq, and_true] at e
  subst e
  rw [List.length_map, hl] at ho hk
  cases a with
  | none =>
    exfalso
    rcases ho.2 with ⟨e3, hn0⟩ | ⟨gb, cap, cur, e3, _⟩
    · omega
    · rw [hh] at e3; cases e3
  | some A =>
    refine ⟨A, c, rfl, fun i hi => ?_⟩
    obtain ⟨hat, _⟩ := ownsRow_at ho hh
    have hil : i < l.length := by omega
    have hx' : (l.map eBag)[i]? = some (eBag l[i]) := by simp [hil]
    have hbi := hb _ (List.getElem_mem hil)
    generalize l[i] = B at hx' hbi
    obtain ⟨us, hus, hul, hru⟩ := hrc.get hx'
    rw [show eBag B = [.lst 3 (B.grams.map eGram), .int .i64 B.lost] from rfl] at hru
    simp only [Rs] at hru
    obtain ⟨v1, v2, e1, h1, v3, v4, e2, h2, e3⟩ := hru
    have hw := h1.width
    simp only [wd] at hw
    obtain ⟨bv, rfl⟩ := List.length_eq_one_iff.1 hw
    simp only [R] at h2
    subst h2; subst e3; subst e2; subst e1
    have h0 := hat.sub (i * 2) 2
    rw [hus] at h0
    exact ⟨bv, _, h0, gr_of (fun b hb => Nat.le_trans hm (hb.2 rfl)) hbi.1 hbi.2 h1⟩

/-- from the calls into the loops -/
theorem c2b {n : Nat} {I0 : Nat → Prop} {g0 : Gh} {w0 : World} {a0 : Act} {dl : List Deferred} {Qm : Exit → Act → World → Prop} (hb0 : g0.b0 = w0.heap.size) {i0 : Nat} (hfr : g0.frm i0 = (a0.tmps, 0))
    (hQ : ∀ (a' : Act) (w' : World) (w1 : World) (ds : List Deferred) (I1 O1 : Nat → Prop), a'.tmps.size = 165 → a'.defers = ds → DlOk ds I1 O1 w1 → DlNew dl w0 ds → Fr I0 (fun _ => False) w0 I1 O1 w1 → Jw w0.heap.size w1 w' → (∀ t, t = 4 ∨ t = 5 ∨ t = 9 ∨ t = 10 → a'.tmps.getD t undef = a0.tmps.getD t undef) → (sk 11 (Try.f3.body.getD .skip)).wpIn (wideR none) n Try.prog Qm a' w')
    {s : St} {env2 : List (Nat × AV)} {l : List Bag} {il iy i4 i5 i9 i10 : Nat} {t1 h1 yv : AV} {fro : Bool}
    (hf : hlook s.heap i0 = some (.frame env2)) (e4 : Abs.look env2 4 = .ptr i4 0) (e5 : Abs.look env2 5 = .ptr i5 0) (e9 : Abs.look env2 9 = .ptr i9 0) (e10 : Abs.look env2 10 = .ptr i10 0)
    (s4 : Abs.look s.env 4 = .ptr i4 0) (s5 : Abs.look s.env 5 = .ptr i5 0) (s9 : Abs.look s.env 9 = .ptr i9 0) (s10 : Abs.look s.env 10 = .ptr i10 0)
    (s89 : Abs.look s.env 89 = .hs il 6) (s90 : Abs.look s.env 90 = .p (.int .i64 6)) (s91 : Abs.look s.env 91 = .p (.int .i64 0)) (s13 : Abs.look s.env 13 = .ptr iy 0)
    (hl : hlook s.heap il = some (.list 24 2 (l.map eBag) fro true)) (hl6 : l.length = 6) (hb : ∀ b ∈ l, bigG b.grams)
    (hy : hlook s.heap iy = some (.var [t1, yv, h1])) (hw1 : awd t1 = 1) (hyv : ∀ I g w D v, HOk D I g w s.heap → w0.heap.size ≤ g.b0 → RA I g w yv [v] → JBy w w0.heap.size v) (hwy : awd yv = 1) :
    AWR Try.prog 165 n I0 g0 w0 dl (Exit.then (fun a w => (sk 10 (Try.f3.body.getD .skip)).wpIn (wideR none) n Try.prog Qm a w) Qm) (snd (hd (sk 9 (Try.f3.body.getD .skip)))) s := by
  intro I g w a hN hdl hdn ok fr kp
  have hgb : g.b0 = w0.heap.size := kp.2.trans hb0
  have hnf : NF w0.heap.size w := hgb ▸ ok.heap.new
  have v89 := ok.env 89
  have v90 := ok.env 90
  have v91 := ok.env 91
  have v13 := ok.env 13
  rw [s89] at v89; rw [s90] at v90; rw [s91] at v91; rw [s13] at v13
  obtain ⟨A, c, hA, hB⟩ := bags_of ok.heap hl (by omega : w0.heap.size ≤ g.b0) hl6 hb v89
  simp only [RA, R, List.cons.injEq, and_true] at v90 v91 v13
  have p4 := pin ok hf e4 s4 kp hfr
  have p5 := pin ok hf e5 s5 kp hfr
  have p9 := pin ok hf e9 s9 kp hfr
  have p10 := pin ok hf e10 s10 kp hfr
  -- y
  obtain ⟨C, T, hC, hr, _⟩ := ok.heap.blk iy _ hy
  simp only [RAs] at hr
  obtain ⟨u1, u2, ec, r1, u3, u4, ec2, r2, _⟩ := hr
  have w1 := r1.width
  have w2 := r2.width
  rw [hw1] at w1; rw [hwy] at w2
  obtain ⟨x1, rfl⟩ := List.length_eq_one_iff.1 w1
  obtain ⟨x2, rfl⟩ := List.length_eq_one_iff.1 w2
  have hyc : w.cell? ((⟨g.blk iy, 0, none⟩ : Addr).add 1) = some x2 := by
    refine cell_of (C := C) (T := T) (fr := (0, 0)) hC rfl ?_
    have : C.toList[1]? = some x2 := by rw [ec, ec2]; rfl
    simpa [Addr.add] using this
  have hjy := hyv I g w _ x2 ok.heap (by omega) r2
  have he : JEnv a ((91, .int .i64 0) :: (89, .slice (some A) 6 c) :: (90, .int .i64 6) :: [(4, a0.tmps.getD 4 undef), (5, a0.tmps.getD 5 undef), (9, a0.tmps.getD 9 undef), (10, a0.tmps.getD 10 undef), (13, .pointer (some ⟨g.blk iy, 0, none⟩))]) := by
    intro t v hv
    simp only [lk] at hv
    repeat' (split at hv; · rename_i e; subst e; cases hv; first | assumption | (simpa [Addr.add] using v13))
    cases hv
  refine wpIn_mono (loops0 hnf hB n a hN he) ?_
  rintro x a' w' ⟨hN', hd', e', he', rfl, hw, hs⟩
  have he2 : JEnv a' [(4, a0.tmps.getD 4 undef), (5, a0.tmps.getD 5 undef), (9, a0.tmps.getD 9 undef), (10, a0.tmps.getD 10 undef), (13, .pointer (some ⟨g.blk iy, 0, none⟩))] := fun t v h => he' t v (hs t v h)
  have hjy' := hjy.mono hw
  have hyc' := hw.same hyc (by obtain ⟨_, _, _, rfl, _⟩ := hjy; intro k x e; cases e)
  refine wpIn_seq (wpIn_mono (loops1 (hw.nf hnf) hyc' hjy' n a' hN' he2) ?_)
  rintro x a'' w'' ⟨hN'', hd'', e'', he'', rfl, hw2, hs2⟩
  refine hQ a'' w'' w a.defers I _ hN'' (hd''.trans hd') hdl hdn fr (hw.trans hw2) ?_
  rintro t (rfl | rfl | rfl | rfl)
  · exact he'' 4 _ (hs2 4 _ rfl)
  · exact he'' 5 _ (hs2 5 _ rfl)
  · exact he'' 9 _ (hs2 9 _ rfl)
  · exact he'' 10 _ (hs2 10 _ rfl)
end Go.Proofs.Bo
