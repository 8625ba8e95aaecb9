/-
  The abstract machine: its operations stand for the model's.
-/
import Derived.Test.YteloibaggcihnaaAbA
import Derived.Laws.MakeOwn
import Derived.Deep.Upon
import Derived.Deep.DeepAppendRoom
import Derived.Deep.AppendSrc
import Derived.Laws.BytesString
set_option linter.all false
set_option linter.unusedVariables false
set_option linter.unusedSimpArgs false

namespace Go.Abs
open Go Go.RowKit

/-- what is shown of an operation -/
def Sound (P : Program) (o : Oper) (a : Act) (D : Nat → Nat → Prop) (I : Nat → Prop) (g : Gh) (w : World) (h : Heap) (nid : Nat) (r : Res) : Prop :=
  ∃ v w' D' I' g', ((execOp a.eval o).run P w = .ok (.value v) w' ∨ ((execOp a.eval o).run P w = .ok .skip w' ∧ v = undef)) ∧ Tr D I g w h D' I' g' w' r.heap ∧ RA I' g' w' r.v [v] ∧ r.v.on D' ∧
    ∀ id m, D' id m → (∃ m', D id m') ∨ id = nid

section
variable {P : Program} {D : Nat → Nat → Prop} {I : Nat → Prop} {g : Gh} {w : World} {h : Heap} {a : Act} {o : Oper} {nid : Nat}

theorem Sound.same {av : AV} {v : Value} {vc : Prop} (ok : HOk D I g w h) (small : ∀ b, I b → b < w.heap.size) (hrun : (execOp a.eval o).run P w = .ok (.value v) w) (hr : RA I g w av [v]) (hon : av.on D) :
    Sound P o a D I g w h nid ⟨vc, av, h⟩ :=
  ⟨v, w, D, I, g, .inl hrun, Tr.refl ok small, hr, hon, fun _ m h => .inl ⟨m, h⟩⟩

theorem Sound.turned {h' : Heap} {av : AV} {v : Value} {vc : Prop} {w' : World} {I' : Nat → Prop} {g' : Gh} (hrun : (execOp a.eval o).run P w = .ok (.value v) w') (t : Tr D I g w h D I' g' w' h') (hr : RA I' g' w' av [v]) (hon : av.on D) :
    Sound P o a D I g w h nid ⟨vc, av, h'⟩ :=
  ⟨v, w', D, I', g', .inl hrun, t, hr, hon, fun _ m h => .inl ⟨m, h⟩⟩

theorem evc_rep (v : Value) : RA I g w (evc v) [v] ∧ (evc v).on D := by
  unfold evc
  split <;> refine ⟨?_, by simp only [AV.on]⟩ <;> simp only [RA, R]
  exact ⟨_, rfl⟩

theorem ev_rep {env : List (Nat × AV)} {nx : Nat} (ok : StOk D I g w a ⟨env, h, nx⟩) (x : Operand) : RA I g w (ev env x) [a.eval x] ∧ (ev env x).on D := by
  cases x with
  | tmp t => exact ⟨ok.env t, ok.on t⟩
  | const v => exact evc_rep v
  | func f =>
    simp only [ev, RA, AV.on, AV.ons, and_self, and_true]
    exact ⟨#[], #[], rfl, by simp [RAEs], by simp [RAEs]⟩
  | global n => exact ⟨by simp only [ev, RA]; exact ⟨_, rfl⟩, by simp only [ev, AV.on]⟩

theorem pick_rep {x y : AV} {u v : Value} (t : Bool) (hx : RA I g w x [u]) (hy : RA I g w y [v]) (ox : x.on D) (oy : y.on D) : RA I g w (pick t x y) [if t then u else v] ∧ (pick t x y).on D := by
  unfold pick
  split
  · simp only [RA, R, List.cons.injEq, and_true] at hx hy
    subst hx; subst hy
    refine ⟨?_, by simp only [AV.on]⟩
    cases t <;> simp [RA, R]
  · cases t <;> simp_all

theorem CF.alloc (w : World) {o : Obj} (h : ∀ C T fr, o = .cells C T fr → fr = (0, 0)) : CF w (w.alloc o) := CF.of fun b C T fr hb hne => by
  by_cases hlt : b < w.heap.size
  · exact Below.heap_alloc w o b hlt
  · exfalso
    have h1 := (Array.getElem?_eq_some_iff.1 hb).1
    rw [World.size_alloc] at h1
    have : b = w.heap.size := by omega
    subst this
    rw [heap_alloc_new] at hb
    exact hne (h C T fr (by cases hb; rfl))

/-- a new variable -/
theorem Sound.newVar {cells : List AV} {C : Array Value} {T : TypeId} {vc : Prop} (ok : HOk D I g w h) (small : ∀ b, I b → b < w.heap.size) (hn : ∀ m, ¬ D nid m)
    (hrun : (execOp a.eval o).run P w = .ok (.value (.pointer (some ⟨w.heap.size, 0, none⟩))) (w.alloc (.cells C T))) (hr : RAs I g w cells C.toList) (hon : AV.ons D cells) :
    Sound P o a D I g w h nid ⟨vc, .ptr nid 0, (nid, .var cells) :: h⟩ := by
  have hs : ∀ b, b < w.heap.size → (w.alloc (.cells C T)).heap[b]? = w.heap[b]? := fun b hb => Below.heap_alloc w _ b hb
  have gs : Gh.same D g (g.withBlk nid w.heap.size) := Gh.withBlk_same hn
  have hblk : (g.withBlk nid w.heap.size).blk nid = w.heap.size := by simp [Gh.withBlk]
  have so : SameOn I w (w.alloc (.cells C T)) := fun b hb => hs b (small b hb)
  refine ⟨_, _, plus D nid 0, I, g.withBlk nid w.heap.size, .inl hrun, Tr.new (n := 0) ok small hn ⟨rfl, rfl, rfl, by simp, fun k hk => absurd hk (by omega)⟩ (CF.alloc w (by intro C T fr h; cases h; rfl)) hs gs ⟨rfl, rfl⟩ ?_ ?_ ?_, ?_, ?_, ?_⟩
  · refine ⟨C, T, ?_, RAs.mono so (fun _ h => h) gs _ _ hon hr, ?_⟩
    · rw [hblk]; exact heap_alloc_new w _
    · rw [hblk]; exact fun hi => by have := small _ hi; omega
  · exact ⟨.inr ⟨rfl, rfl⟩, AV.ons_mono plus_sub _ hon⟩
  · intro b hb
    simp only [ownB, hblk, Option.some.injEq] at hb
    omega
  · simp only [RA, hblk, Addr.add, if_true]
  · simp only [AV.on]; exact .inr ⟨rfl, rfl⟩
  · rintro id m (hd | ⟨rfl, _⟩)
    · exact .inl ⟨m, hd⟩
    · exact .inr rfl

/-- a new list -/
theorem Sound.newList {e : TypeId} {sz : Nat} {xs : List (List PV)} {vals : List Value} {vc : Prop} {w' : World} {I1 : Nat → Prop} {h1 : Heap} (t1 : Tr D I g w h D I1 g w h1) (hn : ∀ m, ¬ D nid m) {v : Value} {n : Nat} (hlen : xs.length = n)
    (hrun : (execOp a.eval o).run P w = .ok (.value v) w') (hw : Below 0 w w') (hcf : CF w w') (hs : ∀ b, b < w.heap.size → w'.heap[b]? = w.heap[b]?)
    (hown : w'.ownsRow w.heap.size e sz v n vals) {fl : Bool} (hr : RC (If I1 g fl) w sz xs vals) (h1v : ∀ v ∈ vals, v.oneCell' = true) :
    Sound P o a D I g w h nid ⟨vc, .hs nid n, (nid, .list e sz xs false fl) :: h1⟩ := by
  subst hlen
  have gs : Gh.same D g (g.withHdr nid xs.length v) := Gh.withHdr_same (hn _)
  have hhdr : (g.withHdr nid xs.length v).hdr nid xs.length = v := by simp [Gh.withHdr]
  have so : SameOn I1 w w' := fun b hb => hs b (t1.small b hb)
  have hown0 : w'.ownsRow 0 e sz v xs.length vals := by
    refine ⟨hown.1, ?_⟩
    rcases hown.2 with hq | ⟨gb, cap, cur, h1, h2, rest⟩
    · exact .inl hq
    · exact .inr ⟨gb, cap, cur, h1, Nat.zero_le _, rest⟩
  have hslice : ∃ a c, v = .slice a xs.length c := by
    rcases hown.2 with ⟨hq, hz⟩ | ⟨gb, cap, cur, h1, _⟩
    · exact ⟨none, 0, by rw [hq, hz]⟩
    · exact ⟨_, cap, h1⟩
  have t2 : Tr D I1 g w h1 (plus D nid xs.length) I1 (g.withHdr nid xs.length v) w' ((nid, .list e sz xs false fl) :: h1) := by
    refine Tr.new t1.heap t1.small hn hw hcf hs gs ⟨rfl, rfl⟩ ?_ ?_ ?_
    · refine ⟨vals, by rw [hhdr]; exact hown0, RC.mono (fun b hb => so b hb.1) (fun _ h => h) hr, fun k hk => ?_, h1v⟩
      rw [hhdr] at hk
      refine ⟨⟨fun hi => ?_, fun hf => by cases hf⟩, Nat.le_trans t1.heap.new.1 (hown.lt k hk).1⟩
      have h1 := (hown.lt k hk).1
      have h2 := t1.small k hi
      omega
    · refine ⟨.inr ⟨rfl, rfl⟩, fun m hm => ?_⟩
      rcases hm with hm | ⟨_, rfl⟩
      · exact absurd hm (hn m)
      · exact Nat.le_refl _
    · intro b hb
      simp only [ownB, hhdr] at hb
      exact (hown.lt b hb).1
  refine ⟨v, w', plus D nid xs.length, I1, g.withHdr nid xs.length v, .inl hrun, t1.trans t2, ?_, ?_, ?_⟩
  · obtain ⟨ad, c, hv⟩ := hslice
    simp only [RA, hhdr]
    exact ⟨ad, c, by rw [hv], hv⟩
  · simp only [AV.on]; exact .inr ⟨rfl, rfl⟩
  · rintro id m (hd | ⟨rfl, _⟩)
    · exact .inl ⟨m, hd⟩
    · exact .inr rfl

/-! ### to values without addresses -/
/-- the same but for what is frozen -/
def SameL (h h' : Heap) : Prop := ∀ id, hlook h' id = hlook h id ∨ ∃ e sz xs f fl, hlook h id = some (.list e sz xs f fl) ∧ hlook h' id = some (.list e sz xs true fl)

theorem SameL.refl (h : Heap) : SameL h h := fun _ => .inl rfl
theorem SameL.trans {h h1 h2 : Heap} (a : SameL h h1) (b : SameL h1 h2) : SameL h h2 := by
  intro id
  rcases b id with e | ⟨e, sz, xs, f, fl, e1, e2⟩
  · rw [e]; exact a id
  · rcases a id with e' | ⟨e', sz', xs', f', fl', e1', e2'⟩
    · rw [e'] at e1; exact .inr ⟨e, sz, xs, f, fl, e1, e2⟩
    · rw [e2'] at e1
      cases e1
      exact .inr ⟨_, _, _, f', _, e1', e2⟩

mutual
theorem toP_same {h h' : Heap} (s : SameL h h') : ∀ (c : AV), toP h' c = toP h c
  | .p _ => by simp only [toP]
  | .hs id n => by
    simp only [toP]
    rcases s id with e | ⟨e, sz, xs, f, fl, e1, e2⟩
    · rw [e]
    · rw [e1, e2]
  | .ptr _ _ => by simp only [toP]
  | .eptr _ _ _ _ _ => by simp only [toP]
  | .aptr _ _ _ => by simp only [toP]
  | .fn _ _ _ => by simp only [toP]
  | .yld _ => by simp only [toP]
  | .agg cs => by simp only [toP, toPs_same s cs]
  | .tup cs => by simp only [toP, toPs_same s cs]
  | .undef => by simp only [toP]
theorem toPs_same {h h' : Heap} (s : SameL h h') : ∀ (cs : List AV), toPs h' cs = toPs h cs
  | [] => by simp only [toPs]
  | c :: cs => by simp only [toPs, toP_same s c, toPs_same s cs]
end

mutual
theorem freshA_same {h h' : Heap} (s : SameL h h') : ∀ (c : AV), freshA h' c = freshA h c
  | .p _ => by simp only [freshA]
  | .hs id n => by
    simp only [freshA]
    rcases s id with e | ⟨e, sz, xs, f, fl, e1, e2⟩
    · rw [e]
    · rw [e1, e2]
  | .ptr _ _ => by simp only [freshA]
  | .eptr _ _ _ _ _ => by simp only [freshA]
  | .aptr _ _ _ => by simp only [freshA]
  | .fn _ _ _ => by simp only [freshA]
  | .yld _ => by simp only [freshA]
  | .agg cs => by simp only [freshA, freshAs_same s cs]
  | .tup cs => by simp only [freshA, freshAs_same s cs]
  | .undef => by simp only [freshA]
theorem freshAs_same {h h' : Heap} (s : SameL h h') : ∀ (cs : List AV), freshAs h' cs = freshAs h cs
  | [] => by simp only [freshAs]
  | c :: cs => by simp only [freshAs, freshA_same s c, freshAs_same s cs]
end

mutual
theorem frz_same (h : Heap) : ∀ (c : AV), SameL h (frz h c)
  | .p _ => by simp only [frz]; exact SameL.refl _
  | .hs id n => by
    simp only [frz]
    split
    · rename_i e sz xs f fl hx
      intro j
      rw [hlook_hset hx]
      split
      · rename_i ej; subst ej; exact .inr ⟨e, sz, xs, f, fl, hx, rfl⟩
      · exact .inl rfl
    · exact SameL.refl _
  | .ptr _ _ => by simp only [frz]; exact SameL.refl _
  | .eptr _ _ _ _ _ => by simp only [frz]; exact SameL.refl _
  | .aptr _ _ _ => by simp only [frz]; exact SameL.refl _
  | .fn _ _ _ => by simp only [frz]; exact SameL.refl _
  | .yld _ => by simp only [frz]; exact SameL.refl _
  | .agg cs => by simp only [frz]; exact frzs_same h cs
  | .tup cs => by simp only [frz]; exact frzs_same h cs
  | .undef => by simp only [frz]; exact SameL.refl _
theorem frzs_same (h : Heap) : ∀ (cs : List AV), SameL h (frzs h cs)
  | [] => by simp only [frzs]; exact SameL.refl _
  | c :: cs => by simp only [frzs]; exact (frz_same h c).trans (frzs_same _ cs)
end

theorem If.of_false {I : Nat → Prop} {g : Gh} : ∀ b, I b → If I g false b := fun _ h => ⟨h, fun h => by cases h⟩
theorem If.and1 {I I' : Nat → Prop} {g : Gh} {x y : Bool} (hI : ∀ b, I b → I' b) : ∀ b, If I g x b → If I' g (x && y) b := fun _ h => ⟨hI _ h.1, fun e => h.2 (by simp_all)⟩
theorem If.and2 {I I' : Nat → Prop} {g : Gh} {x y : Bool} (hI : ∀ b, I b → I' b) : ∀ b, If I g y b → If I' g (x && y) b := fun _ h => ⟨hI _ h.1, fun e => h.2 (by simp_all)⟩
theorem If.fl {I : Nat → Prop} {g : Gh} {w : World} (c : PV) {vs : List Value} (r : R I w c vs) : R (If I g (flat c)) w c vs := by
  cases h : flat c with
  | true => exact flat_rep c h r
  | false => exact R.mono (fun _ _ => rfl) If.of_false _ _ r
theorem If.fls {I : Nat → Prop} {g : Gh} {w : World} (c : List PV) {vs : List Value} (r : Rs I w c vs) : Rs (If I g (flats c)) w c vs := by
  cases h : flats c with
  | true => exact flats_rep c h r
  | false => exact Rs.mono (fun _ _ => rfl) If.of_false _ _ r

mutual
theorem frz_repF : ∀ (c : AV) {h : Heap} {I : Nat → Prop} {v : PV} {vs : List Value}, HOk D I g w h → (∀ b, I b → b < w.heap.size) → toP h c = some v → RA I g w c vs → ∃ I', Tr D I g w h D I' g w (frz h c) ∧ R (If I' g (freshA h c)) w v vs
  | .p c, h, I, v, vs, ok, small, e, r => by
    simp only [toP, Option.some.injEq] at e
    subst e
    simp only [frz, freshA]
    exact ⟨I, Tr.refl ok small, If.fl _ (by simpa only [RA] using r)⟩
  | .hs id n, h, I, v, vs, ok, small, e, r => by
    simp only [toP] at e
    split at e
    · rename_i e0 sz xs f fl hx
      split at e
      · rename_i hl
        simp only [Option.some.injEq] at e
        subst e
        subst hl
        simp only [RA] at r
        obtain ⟨ad, c, rfl, hh⟩ := r
        obtain ⟨I', t, hI⟩ := Tr.freeze ok small hx
        simp only [frz, hx, freshA]
        refine ⟨I', t, ?_⟩
        obtain ⟨_, _, _, hk, _⟩ := ok.blk id _ hx
        have := BOk.lstF ok hx (I' := If I' g fl) (fun b hb => ⟨t.fr.isub _ hb.1, hb.2⟩) (fun k hk' => ⟨hI k hk', fun _ => (hk k hk').2⟩)
        rwa [hh] at this
      · cases e
    · cases e
  | .ptr _ _, _, _, _, _, _, _, e, _ => by simp only [toP] at e; cases e
  | .eptr _ _ _ _ _, _, _, _, _, _, _, e, _ => by simp only [toP] at e; cases e
  | .aptr _ _ _, _, _, _, _, _, _, e, _ => by simp only [toP] at e; cases e
  | .fn _ _ _, _, _, _, _, _, _, e, _ => by simp only [toP] at e; cases e
  | .yld _, _, _, _, _, _, _, e, _ => by simp only [toP] at e; cases e
  | .undef, _, _, _, _, _, _, e, _ => by simp only [toP] at e; cases e
  | .agg cs, h, I, v, vs, ok, small, e, r => by
    simp only [toP, Option.map_eq_some_iff] at e
    obtain ⟨ps, e, rfl⟩ := e
    simp only [RA] at r
    obtain ⟨us, rfl, r⟩ := r
    obtain ⟨I', t, r'⟩ := frzs_repF cs ok small e r
    simp only [frz, R, freshA]
    exact ⟨I', t, us, rfl, r'⟩
  | .tup cs, h, I, v, vs, ok, small, e, r => by
    simp only [toP, Option.map_eq_some_iff] at e
    obtain ⟨ps, e, rfl⟩ := e
    simp only [RA] at r
    obtain ⟨us, rfl, r⟩ := r
    obtain ⟨I', t, r'⟩ := frzs_repsF cs ok small e r
    simp only [frz, R, freshA]
    exact ⟨I', t, us, rfl, r'⟩
theorem frzs_repF : ∀ (cs : List AV) {h : Heap} {I : Nat → Prop} {ps : List PV} {vs : List Value}, HOk D I g w h → (∀ b, I b → b < w.heap.size) → toPs h cs = some ps → RAs I g w cs vs → ∃ I', Tr D I g w h D I' g w (frzs h cs) ∧ Rs (If I' g (freshAs h cs)) w ps vs
  | [], h, I, ps, vs, ok, small, e, r => by
    simp only [toPs, Option.some.injEq] at e
    subst e
    simp only [frzs]
    exact ⟨I, Tr.refl ok small, by simpa only [RAs, Rs] using r⟩
  | c :: cs, h, I, ps, vs, ok, small, e, r => by
    simp only [toPs, Option.bind_eq_some_iff, Option.map_eq_some_iff] at e
    obtain ⟨p, e1, ps', e2, rfl⟩ := e
    simp only [RAs] at r
    obtain ⟨v1, v2, rfl, r1, r2⟩ := r
    obtain ⟨I1, t1, q1⟩ := frz_repF c ok small e1 r1
    have hso := t1.fr.sameOn ok small
    have r2' : RAs I1 g w cs v2 := RAs.mono' (fun b hb => t1.fr.isub b hb) r2
    obtain ⟨I2, t2, q2⟩ := frzs_repF cs t1.heap t1.small (by rw [toPs_same (frz_same h c)]; exact e2) r2'
    rw [freshAs_same (frz_same h c)] at q2
    simp only [frzs, Rs, freshAs]
    exact ⟨I2, t1.trans t2, v1, v2, rfl, R.mono (fun _ _ => rfl) (If.and1 fun b hb => t2.fr.isub b hb) _ _ q1, Rs.mono (fun _ _ => rfl) (If.and2 fun _ h => h) _ _ q2⟩
theorem frzs_repsF : ∀ (cs : List AV) {h : Heap} {I : Nat → Prop} {ps : List PV} {vs : List Value}, HOk D I g w h → (∀ b, I b → b < w.heap.size) → toPs h cs = some ps → RAEs I g w cs vs → ∃ I', Tr D I g w h D I' g w (frzs h cs) ∧ REs (If I' g (freshAs h cs)) w ps vs
  | [], h, I, ps, vs, ok, small, e, r => by
    simp only [toPs, Option.some.injEq] at e
    subst e
    simp only [frzs]
    exact ⟨I, Tr.refl ok small, by simpa only [RAEs, REs] using r⟩
  | c :: cs, h, I, ps, vs, ok, small, e, r => by
    simp only [toPs, Option.bind_eq_some_iff, Option.map_eq_some_iff] at e
    obtain ⟨p, e1, ps', e2, rfl⟩ := e
    simp only [RAEs] at r
    obtain ⟨v1, v2, rfl, r1, r2⟩ := r
    obtain ⟨I1, t1, q1⟩ := frz_repF c ok small e1 r1
    have r2' : RAEs I1 g w cs v2 := RAEs.mono' (fun b hb => t1.fr.isub b hb) r2
    obtain ⟨I2, t2, q2⟩ := frzs_repsF cs t1.heap t1.small (by rw [toPs_same (frz_same h c)]; exact e2) r2'
    rw [freshAs_same (frz_same h c)] at q2
    simp only [frzs, REs, freshAs]
    exact ⟨I2, t1.trans t2, v1, v2, rfl, R.mono (fun _ _ => rfl) (If.and1 fun b hb => t2.fr.isub b hb) _ _ q1, REs.mono (fun _ _ => rfl) (If.and2 fun _ h => h) _ _ q2⟩
end
theorem frz_rep (c : AV) {h : Heap} {I : Nat → Prop} {v : PV} {vs : List Value} (ok : HOk D I g w h) (small : ∀ b, I b → b < w.heap.size) (e : toP h c = some v) (r : RA I g w c vs) : ∃ I', Tr D I g w h D I' g w (frz h c) ∧ R I' w v vs :=
  let ⟨I', t, q⟩ := frz_repF c ok small e r
  ⟨I', t, R.mono (fun _ _ => rfl) (fun _ h => h.1) _ _ q⟩
theorem frzs_rep (cs : List AV) {h : Heap} {I : Nat → Prop} {ps : List PV} {vs : List Value} (ok : HOk D I g w h) (small : ∀ b, I b → b < w.heap.size) (e : toPs h cs = some ps) (r : RAs I g w cs vs) : ∃ I', Tr D I g w h D I' g w (frzs h cs) ∧ Rs I' w ps vs :=
  let ⟨I', t, q⟩ := frzs_repF cs ok small e r
  ⟨I', t, Rs.mono (fun _ _ => rfl) (fun _ h => h.1) _ _ q⟩
theorem frzs_reps (cs : List AV) {h : Heap} {I : Nat → Prop} {ps : List PV} {vs : List Value} (ok : HOk D I g w h) (small : ∀ b, I b → b < w.heap.size) (e : toPs h cs = some ps) (r : RAEs I g w cs vs) : ∃ I', Tr D I g w h D I' g w (frzs h cs) ∧ REs I' w ps vs :=
  let ⟨I', t, q⟩ := frzs_repsF cs ok small e r
  ⟨I', t, REs.mono (fun _ _ => rfl) (fun _ h => h.1) _ _ q⟩

end
end Go.Abs

namespace Go.Abs
open Go Go.RowKit

section
variable {P : Program} {Z : Zeros} {wr : Bool} {D : Nat → Nat → Prop} {I : Nat → Prop} {g : Gh} {w : World} {h : Heap} {a : Act} {o : Oper} {nid nx : Nat} {env : List (Nat × AV)}

theorem run_value {s : Sem Value} {v : Value} {w' : World} (h : s.run P w = .ok v w') : (do pure (Next.value (← s)) : Sem Next).run P w = .ok (.value v) w' := by
  simp [Sem.run_bind, h]

theorem run_newRow (e : TypeId) (cells : Array Value) : (newRow e cells).run P w = .ok ⟨w.heap.size, 0, none⟩ (w.alloc (.cells cells e)) := rfl

theorem step_move {x : Operand} (ho : o.op = .move x ∨ o.op = .assign x) (ok : StOk D I g w a ⟨env, h, nx⟩) : Sound P o a D I g w h nid ⟨True, ev env x, h⟩ := by
  obtain ⟨hr, hon⟩ := ev_rep ok x
  exact .same ok.heap ok.small (by rcases ho with ho | ho <;> simp [execOp, ho]) hr hon

theorem step_pick {c x y : Operand} (ho : o.op = .pick c x y) (ok : StOk D I g w a ⟨env, h, nx⟩) {t : Bool} (hc : ev env c = .p (.bool t)) : Sound P o a D I g w h nid ⟨True, pick t (ev env x) (ev env y), h⟩ := by
  obtain ⟨hx, ox⟩ := ev_rep ok x
  obtain ⟨hy, oy⟩ := ev_rep ok y
  have hcr := (ev_rep ok c).1
  rw [hc] at hcr
  simp only [RA, R, List.cons.injEq, and_true] at hcr
  obtain ⟨hr, hon⟩ := pick_rep t hx hy ox oy
  exact .same ok.heap ok.small (by simp [execOp, ho, hcr, asBool]) hr hon

theorem step_load {t : TypeId} {x : Operand} (ho : o.op = .load t x) (ok : StOk D I g w a ⟨env, h, nx⟩) {av : AV} (e : vload P h t (ev env x) = some av) : Sound P o a D I g w h nid ⟨True, av, h⟩ := by
  obtain ⟨hx, ox⟩ := ev_rep ok x
  obtain ⟨u, hrun, hr, hon⟩ := vload_sound ok.heap e hx ox
  exact .same ok.heap ok.small (by simp only [execOp, ho]; exact run_value hrun) hr hon

theorem step_store {t : TypeId} {x y : Operand} (ho : o.op = .store t x y) (ok : StOk D I g w a ⟨env, h, nx⟩) {h' : Heap} (e : vstore P h t (ev env x) (ev env y) = some h') : Sound P o a D I g w h nid ⟨True, .undef, h'⟩ := by
  obtain ⟨hx, ox⟩ := ev_rep ok x
  obtain ⟨hy, oy⟩ := ev_rep ok y
  obtain ⟨w', hrun, t⟩ := vstore_sound ok.heap ok.small e hx hy oy
  exact ⟨undef, w', D, I, g, .inr ⟨by simp only [execOp, ho]; simp [Sem.run_bind, hrun], rfl⟩, t, by simp only [RA]; exact ⟨_, rfl⟩, by simp only [AV.on], fun _ m h => .inl ⟨m, h⟩⟩

theorem step_alloc {t : TypeId} (ho : o.op = .alloc t) (hz : ZOk P Z) (ok : StOk D I g w a ⟨env, h, nx⟩) (hn : ∀ m, ¬ D nid m) (hne : (Z t).isEmpty = false) :
    Sound P o a D I g w h nid ⟨True, .ptr nid 0, (nid, .var ((Z t).map .p)) :: h⟩ := by
  obtain ⟨i, z, hi, hzz, _, _, hr⟩ := hz t (by intro e; simp [e] at hne)
  refine Sound.newVar (C := z.cells) (T := t) ok.heap ok.small hn ?_ (RAs_p (Rs.mono (I := I) (w := w) (fun _ _ => rfl) (fun _ h => h) _ _ (hr I w))) (ons_p _)
  simp only [execOp, ho]
  refine run_value ?_
  simp [Instr.alloc, zeroValue, typeInfo, hi, hzz, newVar, run_newRow]

theorem step_box {t : TypeId} {x : Operand} (ho : o.op = .box t x) (ok : StOk D I g w a ⟨env, h, nx⟩) (hn : ∀ m, ¬ D nid m) (hu : (cellsOf (ev env x)).all oneB = true) :
    Sound P o a D I g w h nid ⟨True, .ptr nid 0, (nid, .var (cellsOf (ev env x))) :: h⟩ := by
  obtain ⟨hx, ox⟩ := ev_rep ok x
  refine Sound.newVar (C := (a.eval x).cells) (T := t) ok.heap ok.small hn ?_ ?_ (ons_cellsOf ox)
  · simp only [execOp, ho]
    refine run_value ?_
    simp [Instr.box, newVar, run_newRow]
  · have hu' : ev env x ≠ .undef := by intro e; rw [e] at hu; simp [cellsOf, oneB] at hu
    rcases cellsOf_rep hx hu' with r | ⟨n, xs, e⟩
    · exact r
    · rw [e] at hu; simp [cellsOf, oneB] at hu

theorem step_nilCheck {x : Operand} (ho : o.op = .nilCheck x) (ok : StOk D I g w a ⟨env, h, nx⟩) (hc : (∃ id off, ev env x = .ptr id off) ∨ (∃ id n sz i off, ev env x = .eptr id n sz i off) ∨ (∃ id off i, ev env x = .aptr id off i) ∨ (∃ cells, ev env x = .p (.vptr cells)) ∨ (∃ f c d, ev env x = .fn f c d)) :
    Sound P o a D I g w h nid ⟨True, ev env x, h⟩ := by
  obtain ⟨hx, ox⟩ := ev_rep ok x
  refine .same ok.heap ok.small ?_ hx ox
  rcases hc with ⟨id, off, e⟩ | ⟨id, n, sz, i, off, e⟩ | ⟨id, off, i, e⟩ | ⟨cells, e⟩ | ⟨f, c, d, e⟩ <;> rw [e] at hx <;> simp only [RA, R] at hx
  · simp only [List.cons.injEq, and_true] at hx; simp [execOp, ho, hx]
  · obtain ⟨_, _, _, _, hx⟩ := hx; simp only [List.cons.injEq, and_true] at hx; simp [execOp, ho, hx]
  · simp only [List.cons.injEq, and_true] at hx; simp [execOp, ho, hx]
  · obtain ⟨_, _, hx, _⟩ := hx; simp only [List.cons.injEq, and_true] at hx; simp [execOp, ho, hx]
  · obtain ⟨_, _, hx, _⟩ := hx; simp only [List.cons.injEq, and_true] at hx; simp [execOp, ho, hx]

theorem iarith_rep (wr : Bool) (k : IntKind) (x : Int) (hvc : (iarith wr k x).1) : (iarith wr k x).2 = .p (.int k (k.wrap x)) := by
  unfold iarith at *
  split
  · rename_i hk
    have h1 : i64R x := by simpa using hvc
    unfold i64R at h1
    have : IntKind.i64.wrap x = x := IntWalk.i64_in _ (by omega)
    rw [this]
  · rfl

theorem intOp_run {op : BinOp} {k : IntKind} {x y : Int} {r : Prop × AV} (e : intOp wr op k x y = some r) (hvc : r.1) (t : TypeId) :
    ∃ v, (binOp op t (.int k x) (.int k y)).run P w = .ok v w ∧ RA I g w r.2 [v] ∧ r.2.on D := by
  cases op <;> simp only [intOp, Option.some.injEq] at e <;> first | cases e | (subst e)
  case add => exact ⟨.int k (k.wrap (x + y)), by simp [binOp, Op.intArith], by rw [iarith_rep _ _ _ hvc]; simp only [RA, R], by rw [iarith_rep _ _ _ hvc]; simp only [AV.on]⟩
  case sub => exact ⟨.int k (k.wrap (x - y)), by simp [binOp, Op.intArith], by rw [iarith_rep _ _ _ hvc]; simp only [RA, R], by rw [iarith_rep _ _ _ hvc]; simp only [AV.on]⟩
  case mul => exact ⟨.int k (k.wrap (x * y)), by simp [binOp, Op.intArith], by rw [iarith_rep _ _ _ hvc]; simp only [RA, R], by rw [iarith_rep _ _ _ hvc]; simp only [AV.on]⟩
  case quo =>
    have hy : y ≠ 0 := hvc
    exact ⟨.int k (k.wrap (x.tdiv y)), by simp [binOp, Op.intDiv, hy], by simp only [RA, R], by simp only [AV.on]⟩
  case rem =>
    have hy : y ≠ 0 := hvc
    exact ⟨.int k (x.tmod y), by simp [binOp, Op.intDiv, hy], by simp only [RA, R], by simp only [AV.on]⟩
  case and => exact ⟨.int k (ibits .and k x y), by simp only [binOp]; rw [if_neg (by simp)]; rfl, by simp only [RA, R], by simp only [AV.on]⟩
  case or => exact ⟨.int k (ibits .or k x y), by simp only [binOp]; rw [if_neg (by simp)]; rfl, by simp only [RA, R], by simp only [AV.on]⟩
  case xor => exact ⟨.int k (ibits .xor k x y), by simp only [binOp]; rw [if_neg (by simp)]; rfl, by simp only [RA, R], by simp only [AV.on]⟩
  case andNot => exact ⟨.int k (ibits .andNot k x y), by simp only [binOp]; rw [if_neg (by simp)]; rfl, by simp only [RA, R], by simp only [AV.on]⟩
  all_goals exact ⟨_, by simp [binOp, Op.intCmp]; rfl, by simp only [RA, R], by simp only [AV.on]⟩

theorem shOp_run {op : BinOp} {k k' : IntKind} {x y : Int} {r : Prop × AV} (hop : op = .shl ∨ op = .shr) (e : shOp op k x y = some r) (hvc : r.1) (t : TypeId) :
    ∃ v, (binOp op t (.int k x) (.int k' y)).run P w = .ok v w ∧ RA I g w r.2 [v] ∧ r.2.on D := by
  rcases hop with rfl | rfl <;> simp only [shOp, Option.some.injEq] at e <;> subst e
  · have hy : ¬ y < 0 := by have : 0 ≤ y := hvc; omega
    exact ⟨_, by simp only [binOp, Op.shift]; rw [if_neg hy]; rfl, by simp only [RA, R], by simp only [AV.on]⟩
  · have hy : ¬ y < 0 := by have : 0 ≤ y := hvc; omega
    exact ⟨_, by simp only [binOp, Op.shift]; rw [if_neg hy]; rfl, by simp only [RA, R], by simp only [AV.on]⟩

theorem strOp_run {op : BinOp} {x y : ByteArray} {r : Prop × AV} (e : strOp op x y = some r) (hvc : r.1) (t : TypeId) :
    ∃ v, (binOp op t (.string x) (.string y)).run P w = .ok v w ∧ RA I g w r.2 [v] ∧ r.2.on D := by
  cases op <;> simp only [strOp, Option.some.injEq] at e <;> first | cases e | (subst e)
  case add =>
    have h1 : ¬ ((x.size + y.size : Nat) : Int) > IntKind.i64.max := by
      have : ((x.size + y.size : Nat) : Int) ≤ 9223372036854775807 := hvc
      have h2 : IntKind.i64.max = 9223372036854775807 := by decide
      omega
    exact ⟨.string (x ++ y), by simp only [binOp, Op.stringOp]; rw [if_neg h1]; rfl, by simp only [RA, R], by simp only [AV.on]⟩
  all_goals exact ⟨_, by simp only [binOp, Op.stringOp]; rfl, by simp only [RA, R], by simp only [AV.on]⟩

theorem eqGuard_int {op : BinOp} {t : TypeId} {x y : Operand} {u v : Value} (hu : (∃ k n, u = .int k n) ∨ (∃ s, u = .string s) ∨ (∃ b, u = .bool b)) : (eqGuard op t x y u v).run P w = .ok () w := by
  unfold eqGuard
  rcases hu with ⟨k, n, rfl⟩ | ⟨s, rfl⟩ | ⟨b, rfl⟩ <;> cases op <;> rfl

theorem run_equal_bool' {t : TypeId} {b b' : Bool} (hu : P.underlying t = some .bool) : (Op.equal t (.bool b) (.bool b')).run P w = .ok (b == b') w := by
  unfold Op.equal
  rw [show Op.maxDepth = 9999 + 1 from rfl]
  unfold Op.equalIn
  rw [Sem.run_bind, run_underlying hu]
  rfl

theorem abin_sound {op : BinOp} {t : TypeId} {x y : AV} {u v : Value} {xo yo : Operand} {r : Prop × AV} (e : abin P wr op t x y = some r) (hvc : r.1) (hx : RA I g w x [u]) (hy : RA I g w y [v]) :
    ∃ z, (eqGuard op t xo yo u v).run P w = .ok () w ∧ (binOp op t u v).run P w = .ok z w ∧ RA I g w r.2 [z] ∧ r.2.on D := by
  unfold abin at e
  split at e
  · rename_i k a k' b
    simp only [RA, R, List.cons.injEq, and_true] at hx hy
    subst hx; subst hy
    have hg := eqGuard_int (P := P) (w := w) (op := op) (t := t) (x := xo) (y := yo) (v := .int k' b) (.inl ⟨k, a, rfl⟩)
    split at e
    · obtain ⟨z, h1, h2, h3⟩ := shOp_run (k' := k') (.inl rfl) e hvc t
      exact ⟨z, hg, h1, h2, h3⟩
    · obtain ⟨z, h1, h2, h3⟩ := shOp_run (k' := k') (.inr rfl) e hvc t
      exact ⟨z, hg, h1, h2, h3⟩
    · split at e
      · rename_i hk
        subst hk
        obtain ⟨z, h1, h2, h3⟩ := intOp_run e hvc t
        exact ⟨z, hg, h1, h2, h3⟩
      · cases e
  · rename_i s s'
    simp only [RA, R, List.cons.injEq, and_true] at hx hy
    subst hx; subst hy
    obtain ⟨z, h1, h2, h3⟩ := strOp_run e hvc t
    exact ⟨z, eqGuard_int (.inr (.inl ⟨_, rfl⟩)), h1, h2, h3⟩
  · rename_i b b'
    simp only [RA, R, List.cons.injEq, and_true] at hx hy
    subst hx; subst hy
    split at e
    · rename_i hu
      simp only [Option.some.injEq] at e
      subst e
      refine ⟨.bool (b == b'), eqGuard_int (.inr (.inr ⟨_, rfl⟩)), ?_, by simp only [RA, R], by simp only [AV.on]⟩
      simp only [binOp, Sem.run_bind, run_equal_bool' hu, Result.andThen_ok, Sem.run_pure]
    · rename_i hu
      simp only [Option.some.injEq] at e
      subst e
      refine ⟨.bool (!(b == b')), eqGuard_int (.inr (.inr ⟨_, rfl⟩)), ?_, by simp only [RA, R], by simp only [AV.on]⟩
      simp only [binOp, Sem.run_bind, run_equal_bool' hu, Result.andThen_ok, Sem.run_pure]
    · cases e
  · cases e

theorem step_binOp {op : BinOp} {t t' : TypeId} {x y : Operand} (ho : o.op = .binOp op t x y t') (ok : StOk D I g w a ⟨env, h, nx⟩) {r : Prop × AV} (e : abin P wr op t (ev env x) (ev env y) = some r) (hvc : r.1) :
    Sound P o a D I g w h nid ⟨r.1, r.2, h⟩ := by
  obtain ⟨hx, ox⟩ := ev_rep ok x
  obtain ⟨hy, oy⟩ := ev_rep ok y
  obtain ⟨z, h1, h2, h3, h4⟩ := abin_sound (D := D) (xo := x) (yo := y) e hvc hx hy
  refine .same ok.heap ok.small ?_ h3 h4
  simp only [execOp, ho]
  refine run_value ?_
  simp [Sem.run_bind, h1, h2]

theorem step_unOp {op : UnOp} {t : TypeId} {x : Operand} (ho : o.op = .unOp op t x) (ok : StOk D I g w a ⟨env, h, nx⟩) {r : Prop × AV} (e : aun op (ev env x) = some r) : Sound P o a D I g w h nid ⟨r.1, r.2, h⟩ := by
  obtain ⟨hx, ox⟩ := ev_rep ok x
  unfold aun at e
  split at e
  · rename_i b hb
    simp only [Option.some.injEq] at e
    subst e
    rw [hb] at hx
    simp only [RA, R, List.cons.injEq, and_true] at hx
    refine .same (v := .bool !b) ok.heap ok.small ?_ (by simp only [RA, R]) (by simp only [AV.on])
    simp [execOp, ho, hx, Op.unary]
  · rename_i k n hb
    simp only [Option.some.injEq] at e
    subst e
    rw [hb] at hx
    simp only [RA, R, List.cons.injEq, and_true] at hx
    refine .same (v := .int k (k.wrap (0 - n))) ok.heap ok.small ?_ (by simp only [RA, R]) (by simp only [AV.on])
    simp [execOp, ho, hx, Op.unary, Op.intArith]
  · cases e

theorem step_conv {src dst : TypeId} {x : Operand} (ho : o.op = .convert src dst x) (ok : StOk D I g w a ⟨env, h, nx⟩) {k k' k2 : IntKind} {n : Int} (hx : ev env x = .p (.int k n)) (hs : pint P src = some k2) (hd : pint P dst = some k') :
    Sound P o a D I g w h nid ⟨True, .p (.int k' (k'.wrap n)), h⟩ := by
  obtain ⟨hr, ox⟩ := ev_rep ok x
  rw [hx] at hr
  simp only [RA, R, List.cons.injEq, and_true] at hr
  have h1 : P.underlying src = some (.int k2) := by unfold pint at hs; split at hs <;> simp_all
  have h2 : P.underlying dst = some (.int k') := by unfold pint at hd; split at hd <;> simp_all
  refine .same (v := .int k' (k'.wrap n)) ok.heap ok.small ?_ (by simp only [RA, R]) (by simp only [AV.on])
  simp only [execOp, ho, hr]
  refine run_value ?_
  simp [convert, Sem.run_bind, run_underlying h1, run_underlying h2, Conv.intToInt]

theorem evs_rep (ok : StOk D I g w a ⟨env, h, nx⟩) : ∀ (xs : List Operand), RAEs I g w (xs.map (ev env)) (xs.map a.eval) ∧ AV.ons D (xs.map (ev env))
  | [] => by simp [RAEs, AV.ons]
  | x :: xs => by
    obtain ⟨h1, h2⟩ := ev_rep ok x
    obtain ⟨h3, h4⟩ := evs_rep ok xs
    simp only [List.map_cons, RAEs, AV.ons]
    exact ⟨⟨_, _, rfl, h1, h3⟩, h2, h4⟩

theorem step_makeFunc {f : Nat} {first cap : Array Operand} (ho : o.op = .makeFunc (.func f) first cap) (ok : StOk D I g w a ⟨env, h, nx⟩) :
    Sound P o a D I g w h nid ⟨True, .fn f (first.toList.map (ev env)) (cap.toList.map (ev env)), h⟩ := by
  obtain ⟨h1, h2⟩ := evs_rep ok first.toList
  obtain ⟨h3, h4⟩ := evs_rep ok cap.toList
  refine .same (v := .func (.func f) (first.map a.eval) (cap.map a.eval)) ok.heap ok.small ?_ ?_ ?_
  · simp [execOp, ho, Instr.makeFunc]
  · simp only [RA]
    exact ⟨_, _, rfl, by simpa using h1, by simpa using h3⟩
  · simp only [AV.on]; exact ⟨h2, h4⟩

theorem pfld_spec {s : TypeId} {f fo : Nat} {ft : TypeId} (e : pfld P s f = some (fo, ft)) : ∃ fs x, P.underlying s = some (.struct fs) ∧ fs[f]? = some x ∧ x.offset = fo ∧ x.type = ft := by
  unfold pfld at e
  split at e
  · rename_i fs hu
    simp only [Option.map_eq_some_iff, Prod.mk.injEq] at e
    obtain ⟨x, hx, e1, e2⟩ := e
    exact ⟨fs, x, hu, hx, e1, e2⟩
  · cases e

theorem step_field {s : TypeId} {x : Operand} {f fo : Nat} {ft : TypeId} (ho : o.op = .field s x f) (ok : StOk D I g w a ⟨env, h, nx⟩) (hf : pfld P s f = some (fo, ft)) {cells : List AV} (hx : ev env x = .agg cells)
    {agg : Bool} {n : Nat} (hp : pty P ft = some (agg, n)) {v : AV} (e : (Abs.sub cells fo n).bind (ldres agg) = some v) : Sound P o a D I g w h nid ⟨True, v, h⟩ := by
  obtain ⟨fs, x', hu, hx', rfl, rfl⟩ := pfld_spec hf
  obtain ⟨hr, hon⟩ := ev_rep ok x
  rw [hx] at hr hon
  simp only [RA, AV.on] at hr hon
  obtain ⟨us, ev, hr⟩ := hr
  simp only [List.cons.injEq, and_true] at ev
  simp only [Option.bind_eq_some_iff] at e
  obtain ⟨cs, e1, e2⟩ := e
  obtain ⟨hle, hrs⟩ := hr.sub e1
  obtain ⟨h1, hv⟩ := ldres_rep e2 hrs
  refine .same ok.heap ok.small ?_ hv (ldres_on e2 (ons_sub hon e1))
  simp only [execOp, ho, ev]
  refine run_value ?_
  obtain ⟨h2, h3⟩ := pty_run (w := w) hp
  simp only [Instr.field, Sem.run_bind, run_underlying hu, Result.andThen_ok, hx', asAgg]
  cases agg with
  | true =>
    simp only [part, Sem.run_bind, h2, h3, Result.andThen_ok, if_true, Sem.run_pure, valOf]
    congr 2
    apply Array.ext'
    simp [Array.toList_extract, List.extract_eq_take_drop]
  | false =>
    have hl := h1 rfl
    obtain ⟨u, hu'⟩ := List.length_eq_one_iff.1 hl
    have hget : us[x'.offset]? = some u := by
      have : (us.toList.drop x'.offset)[0]? = some u := by
        have h0 : ((us.toList.drop x'.offset).take n)[0]? = some u := by rw [hu']; rfl
        rw [List.getElem?_take] at h0
        split at h0
        · exact h0
        · cases h0
      simpa using this
    simp [part, Sem.run_bind, h2, hget, valOf, hu']

theorem step_extract {x : Operand} {i : Nat} (ho : o.op = .extract x i) (ok : StOk D I g w a ⟨env, h, nx⟩) {vs : List AV} (hx : ev env x = .tup vs) {v : AV} (e : vs[i]? = some v) : Sound P o a D I g w h nid ⟨True, v, h⟩ := by
  obtain ⟨hr, hon⟩ := ev_rep ok x
  rw [hx] at hr hon
  simp only [RA, AV.on] at hr hon
  obtain ⟨us, ev, hr⟩ := hr
  simp only [List.cons.injEq, and_true] at ev
  have hget : ∀ (vs : List AV) (us : List Value) (i : Nat), RAEs I g w vs us → AV.ons D vs → vs[i]? = some v → ∃ u, us[i]? = some u ∧ RA I g w v [u] ∧ v.on D := by
    intro vs
    induction vs with
    | nil => intro us i _ _ e; simp at e
    | cons c cs ih =>
      intro us i r o e
      simp only [RAEs, AV.ons] at r o
      obtain ⟨u, us', rfl, r1, r2⟩ := r
      cases i with
      | zero => simp at e; subst e; exact ⟨u, rfl, r1, o.1⟩
      | succ i => simpa using ih us' i r2 o.2 (by simpa using e)
  obtain ⟨u, h1, h2, h3⟩ := hget vs us.toList i hr hon e
  refine .same (v := u) ok.heap ok.small ?_ h2 h3
  have h1' : us[i]? = some u := by simpa using h1
  simp [execOp, ho, ev, Instr.extract, h1']

end
end Go.Abs

namespace Go.Abs
open Go Go.RowKit

section
variable {P : Program} {Z : Zeros} {wr : Bool} {D : Nat → Nat → Prop} {I : Nat → Prop} {g : Gh} {w : World} {h : Heap} {a : Act} {o : Oper} {nid nx : Nat} {env : List (Nat × AV)}

theorem run_fieldAt {s : TypeId} {f fo : Nat} {ft : TypeId} {n : Nat} (hf : pfld P s f = some (fo, ft)) (hp : psz P ft = some n) (hn : n ≠ 0) (ad : Addr) :
    (Instr.fieldAt s (.pointer (some ad)) f).run P w = .ok (.pointer (some (ad.add fo))) w := by
  obtain ⟨fs, x', hu, hx', rfl, rfl⟩ := pfld_spec hf
  have h3 := psz_run (w := w) hp
  simp [Instr.fieldAt, Sem.run_bind, run_underlying hu, hx', Instr.sureAddr, fieldPlace, h3, hn]

theorem step_fieldAddr {s : TypeId} {x : Operand} {f fo : Nat} {ft : TypeId} {n : Nat} (ho : o.op = .fieldAddr s x f) (ok : StOk D I g w a ⟨env, h, nx⟩) (hf : pfld P s f = some (fo, ft)) (hp : psz P ft = some n) (hn : n ≠ 0) {r : Res}
    (e : (match ev env x with
      | .ptr id off => some (⟨True, .ptr id (off + fo), h⟩ : Res)
      | .eptr id n sz i off => some ⟨True, .eptr id n sz i (off + fo), h⟩
      | .p (.vptr cells) => (dropW (cells.map .p) fo).bind fun cs => (toPs [] cs).map fun cs => ⟨True, .p (.vptr cs), h⟩
      | _ => none) = some r) : Sound P o a D I g w h nid r := by
  obtain ⟨hr, hon⟩ := ev_rep ok x
  have hrun := run_fieldAt (w := w) hf hp hn
  split at e
  · rename_i id off hx
    cases e
    rw [hx] at hr hon
    simp only [RA, AV.on, List.cons.injEq, and_true] at hr hon
    refine .same (v := .pointer (some ((⟨g.blk id, 0, none⟩ : Addr).add (off + fo)))) ok.heap ok.small ?_ (by simp only [RA]) (by simpa only [AV.on] using hon)
    simp only [execOp, ho, hr]
    rw [← add_add]
    exact run_value (hrun _)
  · rename_i id m sz i off hx
    cases e
    rw [hx] at hr hon
    simp only [RA, AV.on, List.cons.injEq, and_true] at hr hon
    obtain ⟨ad, m', c, hh, hv⟩ := hr
    refine .same (v := .pointer (some (ad.add (i * sz + (off + fo))))) ok.heap ok.small ?_ ?_ (by simpa only [AV.on] using hon)
    · simp only [execOp, ho, hv]
      have := hrun (ad.add (i * sz + off))
      rw [add_add, Nat.add_assoc] at this
      exact run_value this
    · simp only [RA]; exact ⟨ad, m', c, hh, rfl⟩
  · rename_i cells hx
    simp only [Option.bind_eq_some_iff, Option.map_eq_some_iff] at e
    obtain ⟨cs, e1, ps, e2, rfl⟩ := e
    rw [hx] at hr hon
    simp only [RA, R] at hr
    obtain ⟨ad, us, hv, hi, hat, hrs⟩ := hr
    simp only [List.cons.injEq, and_true] at hv
    obtain ⟨hle, hrd⟩ := (RAs_p (g := g) hrs).drop e1
    refine .same (v := .pointer (some (ad.add fo))) ok.heap ok.small ?_ ?_ (by simp only [AV.on])
    · simp only [execOp, ho, hv]; exact run_value (hrun _)
    · simp only [RA, R]
      refine ⟨_, _, rfl, by rw [add_block]; exact hi, ?_, toPs_nil e2 hrd⟩
      have := hat.1.sub fo us.length
      rw [List.take_of_length_le (by simp)] at this
      exact ⟨this, fun v hv => hat.2 v (List.mem_of_mem_drop hv)⟩
  · cases e

theorem run_indexAt_slice {t et : TypeId} {sz len cp : Nat} {k : IntKind} {i : Int} (ht : pelem P t = some et) (hs : psz P et = some sz) {ad : Addr} (h0 : 0 ≤ i) (hlt : i < len) :
    (Instr.indexAt t (.slice (some ad) len cp) (.int k i)).run P w = .ok (.pointer (some (ad.add (i.toNat * sz)))) w := by
  have hu : P.underlying t = some (.slice et) := by unfold pelem at ht; split at ht <;> simp_all
  have h3 := psz_run (w := w) hs
  simp [Instr.indexAt, Sem.run_bind, asIntOf, run_underlying hu, h0, hlt, h3]

theorem pelem_spec {t : TypeId} {sz : Nat} (e : (pelem P t).bind (psz P) = some sz) : ∃ et, pelem P t = some et ∧ psz P et = some sz := by
  simpa only [Option.bind_eq_some_iff] using e

theorem step_indexAddr {t : TypeId} {x ix : Operand} (ho : o.op = .indexAddr t x ix) (ok : StOk D I g w a ⟨env, h, nx⟩) {r : Res}
    (e : (match ev env x, ev env ix with
    | .p (.lst sz xs), .p (.int _ i) =>
      if (pelem P t).bind (psz P) = some sz then (xs[i.toNat]?).map fun e => (⟨0 ≤ i, .p (.vptr e), h⟩ : Res) else none
    | .hs id n, .p (.int _ i) =>
      match hlook h id with
      | some (.list _ sz xs _ _) => if (pelem P t).bind (psz P) = some sz ∧ xs.length = n then (xs[i.toNat]?).map fun _ => ⟨0 ≤ i, .eptr id n sz i.toNat 0, h⟩ else none
      | _ => none
    | .ptr id off, .p (.int _ i) =>
      match parr P t with
      | some (len, e) => if psz P e = some 1 then some ⟨0 ≤ i ∧ i < len, .aptr id off i.toNat, h⟩ else none
      | none => none
    | _, _ => none) = some r) (hvc : r.vc) : Sound P o a D I g w h nid r := by
  obtain ⟨hr, hon⟩ := ev_rep ok x
  obtain ⟨hri, _⟩ := ev_rep ok ix
  split at e
  · rename_i sz xs k i hx hix
    rw [hx] at hr; rw [hix] at hri
    split at e
    · rename_i hp
      obtain ⟨et, h1, h2⟩ := pelem_spec hp
      simp only [Option.map_eq_some_iff] at e
      obtain ⟨el, he, rfl⟩ := e
      have h0 : 0 ≤ i := hvc
      simp only [RA, R, List.cons.injEq, and_true] at hr hri
      obtain ⟨ao, cap, hv, hle, hrl⟩ := hr
      obtain ⟨ad, us, rfl, hi, hul, hat, hrs⟩ := hrl.get he
      have hlt := (List.getElem?_eq_some_iff.1 he).1
      refine .same (v := .pointer (some (ad.add (i.toNat * sz)))) ok.heap ok.small ?_ ?_ (by simp only [AV.on])
      · simp only [execOp, ho, hv, hri]
        exact run_value (run_indexAt_slice h1 h2 h0 (by omega))
      · simp only [RA, R]
        rw [Nat.zero_add] at hat
        exact ⟨_, us, rfl, by rw [add_block]; exact hi, hat, hrs⟩
    · cases e
  · rename_i id n k i hx hix
    rw [hx] at hr hon; rw [hix] at hri
    split at e
    · rename_i e0 sz xs fro fl hl
      split at e
      · rename_i hp
        obtain ⟨hp, rfl⟩ := hp
        obtain ⟨et, h1, h2⟩ := pelem_spec hp
        simp only [Option.map_eq_some_iff] at e
        obtain ⟨el, he, rfl⟩ := e
        have h0 : 0 ≤ i := hvc
        have hlt := (List.getElem?_eq_some_iff.1 he).1
        simp only [RA, R, AV.on, List.cons.injEq, and_true] at hr hri hon
        obtain ⟨ao, cap, hv, hh⟩ := hr
        obtain ⟨vals, hown, _, _⟩ := ok.heap.blk id _ hl
        have hsome : ∃ ad, ao = some ad := by
          rcases hown.2 with ⟨e1, e2⟩ | ⟨gb, cap', cur, e1, _⟩
          · omega
          · rw [hh] at e1; cases e1; exact ⟨_, rfl⟩
        obtain ⟨ad, rfl⟩ := hsome
        refine .same (v := .pointer (some (ad.add (i.toNat * sz)))) ok.heap ok.small ?_ ?_ (by simpa only [AV.on] using hon)
        · simp only [execOp, ho, hv, hri]
          exact run_value (run_indexAt_slice h1 h2 h0 (by omega))
        · simp only [RA]
          exact ⟨ad, xs.length, cap, hh, by simp⟩
      · cases e
    · cases e
  · rename_i id off k i hx hix
    rw [hx] at hr hon; rw [hix] at hri
    split at e
    · rename_i len et ht
      split at e
      · rename_i hp
        cases e
        obtain ⟨h0, hlt⟩ : 0 ≤ i ∧ i < len := hvc
        have hu : P.underlying t = some (.array len et) := by unfold parr at ht; split at ht <;> simp_all
        have h3 := psz_run (w := w) hp
        simp only [RA, R, AV.on, List.cons.injEq, and_true] at hr hri hon
        refine .same (v := .pointer (some ((⟨g.blk id, 0, none⟩ : Addr).add (off + i.toNat)))) ok.heap ok.small ?_ (by simp only [RA]) (by simpa only [AV.on] using hon)
        simp only [execOp, ho, hr, hri]
        refine run_value ?_
        simp [Instr.indexAt, Sem.run_bind, asIntOf, run_underlying hu, h0, hlt, h3, Instr.sureAddr, add_add]
      · cases e
    · cases e
  · cases e

theorem step_index {t : TypeId} {x ix : Operand} (ho : o.op = .index t x ix) (ok : StOk D I g w a ⟨env, h, nx⟩) {r : Res}
    (e : (match ev env x, ev env ix with
    | .agg [.p (.arr n xs)], .p (.int _ i) =>
      match parr P t with
      | some (len, e) => if pty P e = some (false, 1) ∧ len = n then (xs[i.toNat]?).map fun c => (⟨0 ≤ i, .p c, h⟩ : Res) else none
      | none => none
    | .p (.str s), .p (.int _ i) => if pstr P t then (s[i.toNat]?).map fun b => ⟨0 ≤ i, .p (.int .u8 b.toNat), h⟩ else none
    | _, _ => none) = some r) (hvc : r.vc) : Sound P o a D I g w h nid r := by
  obtain ⟨hr, hon⟩ := ev_rep ok x
  obtain ⟨hri, _⟩ := ev_rep ok ix
  split at e
  · rename_i n xs k i hx hix
    rw [hx] at hr; rw [hix] at hri
    split at e
    · rename_i len et ht
      split at e
      · rename_i hp
        obtain ⟨hp, rfl⟩ := hp
        simp only [Option.map_eq_some_iff] at e
        obtain ⟨c, hc, rfl⟩ := e
        have h0 : 0 ≤ i := hvc
        have hu : P.underlying t = some (.array len et) := by unfold parr at ht; split at ht <;> simp_all
        obtain ⟨h2, h3⟩ := pty_run (w := w) hp
        simp only [RA, RAs, R, List.cons.injEq, and_true] at hr hri
        obtain ⟨us, hv, v1, v2, e1, ⟨hl1, hl2, hre⟩, rfl⟩ := hr
        obtain ⟨u, hu', hru⟩ := hre.get hc
        have hlt := (List.getElem?_eq_some_iff.1 hc).1
        have hget : us[i.toNat]? = some u := by
          have : us.toList[i.toNat]? = some u := by rw [e1]; simpa using hu'
          simpa using this
        refine .same (v := u) ok.heap ok.small ?_ (by simpa only [RA] using hru) (by simp only [AV.on])
        simp only [execOp, ho, hv, hri]
        refine run_value ?_
        simp [Instr.index, Sem.run_bind, asIntOf, run_underlying hu, h0, show i < (len : Int) by omega, h3, part, h2, hget]
      · cases e
    · cases e
  · rename_i s k i hx hix
    rw [hx] at hr; rw [hix] at hri
    split at e
    · rename_i hp
      simp only [Option.map_eq_some_iff] at e
      obtain ⟨b, hb, rfl⟩ := e
      have h0 : 0 ≤ i := hvc
      have hu : P.underlying t = some .string := by unfold pstr at hp; split at hp <;> simp_all
      simp only [RA, R, List.cons.injEq, and_true] at hr hri
      refine .same (v := .int .u8 b.toNat) ok.heap ok.small ?_ (by simp only [RA, R]) (by simp only [AV.on])
      simp only [execOp, ho, hr, hri]
      refine run_value ?_
      simp [Instr.index, Sem.run_bind, asIntOf, run_underlying hu, h0, hb]
    · cases e
  · cases e

theorem alen_sound {t : TypeId} {x v : AV} {u : Value} {ty : TypeId} (e : alen P h t x = some v) (hr : RA I g w x [u]) : ∃ z, (Builtin.len_ #[t] ty #[u]).run P w = .ok z w ∧ RA I g w v [z] ∧ v.on D := by
  unfold alen at e
  have hsl : ∀ (hp : (pelem P t).isSome = true), ∃ et, P.underlying t = some (.slice et) := by
    intro hp
    unfold pelem at hp
    split at hp <;> simp_all
  split at e
  · split at e
    · rename_i hp
      cases e
      obtain ⟨et, hu⟩ := hsl hp
      simp only [RA, R, List.cons.injEq, and_true] at hr
      obtain ⟨ao, cap, rfl, _⟩ := hr
      exact ⟨_, by simp [Builtin.len_, Sem.run_bind, run_underlying hu]; rfl, by simp only [RA, R, goInt], by simp only [AV.on]⟩
    · cases e
  · split at e
    · rename_i hp
      cases e
      obtain ⟨et, hu⟩ := hsl hp
      simp only [RA, R, List.cons.injEq, and_true] at hr
      subst hr
      exact ⟨_, by simp [Builtin.len_, Sem.run_bind, run_underlying hu]; rfl, by simp only [RA, R, goInt], by simp only [AV.on]⟩
    · cases e
  · split at e
    · rename_i hp
      cases e
      obtain ⟨et, hu⟩ := hsl hp
      simp only [RA, List.cons.injEq, and_true] at hr
      obtain ⟨ao, cap, rfl, _⟩ := hr
      exact ⟨_, by simp [Builtin.len_, Sem.run_bind, run_underlying hu]; rfl, by simp only [RA, R, goInt], by simp only [AV.on]⟩
    · cases e
  · split at e
    · rename_i hp
      cases e
      have hu : P.underlying t = some .string := by unfold pstr at hp; split at hp <;> simp_all
      simp only [RA, R, List.cons.injEq, and_true] at hr
      subst hr
      exact ⟨_, by simp [Builtin.len_, Sem.run_bind, run_underlying hu]; rfl, by simp only [RA, R, goInt], by simp only [AV.on]⟩
    · cases e
  · cases e

theorem amin_sound {D : Nat → Nat → Prop} : ∀ {r : List AV} {x v : AV} {u : Value} {us : List Value}, amin x r = some v → RA I g w x [u] → RAEs I g w r us → ∃ z, (us.foldlM Builtin.min2 u).run P w = .ok z w ∧ RA I g w v [z] ∧ (x.on D → v.on D)
  | [], x, v, u, us, e, hx, hr => by
    simp only [amin, Option.some.injEq] at e
    subst e
    simp only [RAEs] at hr
    subst hr
    exact ⟨u, by simp, hx, fun h => h⟩
  | y :: r, x, v, u, us, e, hx, hr => by
    unfold amin at e
    split at e
    · rename_i heq; cases heq
    · rename_i k a k' b r' heq
      cases heq
      simp only [RAEs] at hr
      obtain ⟨u', us', rfl, h1, h2⟩ := hr
      simp only [RA, R, List.cons.injEq, and_true] at hx h1
      subst hx; subst h1
      obtain ⟨z, h3, h4, h5⟩ := amin_sound (D := D) e (u := .int k (if b < a then b else a)) (by simp only [RA, R]) h2
      exact ⟨z, by simp [Builtin.min2, h3], h4, fun _ => h5 (by simp only [AV.on])⟩
    · cases e

theorem amax_sound {D : Nat → Nat → Prop} : ∀ {r : List AV} {x v : AV} {u : Value} {us : List Value}, amax x r = some v → RA I g w x [u] → RAEs I g w r us → ∃ z, (us.foldlM Builtin.max2 u).run P w = .ok z w ∧ RA I g w v [z] ∧ (x.on D → v.on D)
  | [], x, v, u, us, e, hx, hr => by
    simp only [amax, Option.some.injEq] at e
    subst e
    simp only [RAEs] at hr
    subst hr
    exact ⟨u, by simp, hx, fun h => h⟩
  | y :: r, x, v, u, us, e, hx, hr => by
    unfold amax at e
    split at e
    · rename_i heq; cases heq
    · rename_i k a k' b r' heq
      cases heq
      simp only [RAEs] at hr
      obtain ⟨u', us', rfl, h1, h2⟩ := hr
      simp only [RA, R, List.cons.injEq, and_true] at hx h1
      subst hx; subst h1
      obtain ⟨z, h3, h4, h5⟩ := amax_sound (D := D) e (u := .int k (if b > a then b else a)) (by simp only [RA, R]) h2
      exact ⟨z, by simp [Builtin.max2] at h3 ⊢; exact h3, h4, fun _ => h5 (by simp only [AV.on])⟩
    · cases e
end
end Go.Abs

namespace Go.Abs
open Go Go.RowKit

section
variable {P : Program} {Z : Zeros} {wr : Bool} {D : Nat → Nat → Prop} {I : Nat → Prop} {g : Gh} {w : World} {h : Heap} {a : Act} {o : Oper} {nid nx : Nat} {env : List (Nat × AV)}

theorem aint_rep {x : AV} {n : Int} {v : Value} (e : aint x = some n) (hr : RA I g w x [v]) : ∃ k, v = .int k n := by
  unfold aint at e
  split at e
  · rename_i k m
    cases e
    simp only [RA, R, List.cons.injEq, and_true] at hr
    exact ⟨k, hr⟩
  · cases e

/-- the bounds, run -/
theorem run_bounds {isS : Bool} {len cap : Nat} {lo hi : Option Value} {l u : Int} (hlo : (lo = none ∧ l = 0) ∨ ∃ k, lo = some (.int k l)) (hhi : (hi = none ∧ u = len) ∨ ∃ k, hi = some (.int k u))
    (h0 : 0 ≤ l) (h1 : l ≤ u) (h2 : u ≤ len) (h3 : len ≤ cap) : (Instr.sliceBounds isS len cap lo hi none).run P w = .ok (l.toNat, u.toNat, cap) w := by
  have hu0 : 0 ≤ u := by omega
  have huc : u ≤ (cap : Int) := by omega
  have hut : (u.toNat : Int) = u := Int.toNat_of_nonneg hu0
  have hlu : l ≤ (u.toNat : Int) := by omega
  rcases hlo with ⟨rfl, rfl⟩ | ⟨k, rfl⟩ <;> rcases hhi with ⟨rfl, rfl⟩ | ⟨k', rfl⟩
  · simp [Instr.sliceBounds]
  · simp [Instr.sliceBounds, Instr.sliceBound, Sem.run_bind, asIntOf, hu0, huc]
  · simp only [Int.toNat_natCast] at hlu
    simp [Instr.sliceBounds, Instr.sliceBound, Sem.run_bind, asIntOf, h0, hlu]
  · simp [Instr.sliceBounds, Instr.sliceBound, Sem.run_bind, asIntOf, h0, hlu, hu0, huc]
    intro hc
    omega

theorem run_sliceAt_slice {t et : TypeId} {sz : Nat} (ht : pelem P t = some et) (hs : psz P et = some sz) {ao : Option Addr} {len cap : Nat} {lo hi : Option Value} {l u : Int}
    (hb : (Instr.sliceBounds true len cap lo hi none).run P w = .ok (l.toNat, u.toNat, cap) w) :
    (Instr.sliceAt t (.slice ao len cap) lo hi none).run P w = .ok (.slice (if cap = l.toNat then ao else ao.map (·.add (l.toNat * sz))) (u.toNat - l.toNat) (cap - l.toNat)) w := by
  have hu : P.underlying t = some (.slice et) := by unfold pelem at ht; split at ht <;> simp_all
  have h3 := psz_run (w := w) hs
  simp [Instr.sliceAt, Instr.slice, Sem.run_bind, run_underlying hu, hb, h3]

theorem lst_sub {sz : Nat} {xs : List (List PV)} {ao : Option Addr} {cap : Nat} (hr : R I w (.lst sz xs) [.slice ao xs.length cap]) {l u : Nat} (h1 : l ≤ u) (h2 : u ≤ xs.length) :
    R I w (.lst sz ((xs.take u).drop l)) [.slice (if cap = l then ao else ao.map (·.add (l * sz))) (u - l) (cap - l)] := by
  simp only [R, List.cons.injEq, and_true] at hr ⊢
  obtain ⟨ao', cap', e, hle, hrl⟩ := hr
  cases e
  have hlen : ((xs.take u).drop l).length = u - l := by simp; omega
  refine ⟨_, _, by rw [hlen], by rw [hlen]; omega, RLL.of_get fun i el hi => ?_⟩
  have hlt : i < u - l := by rw [← hlen]; exact (List.getElem?_eq_some_iff.1 hi).1
  have hi' : xs[l + i]? = some el := by
    rw [List.getElem?_drop, List.getElem?_take, if_pos (by omega)] at hi
    exact hi
  obtain ⟨ad, us, rfl, hI, hul, hat, hrs⟩ := hrl.get hi'
  rw [if_neg (by omega)]
  refine ⟨ad.add (l * sz), us, rfl, by rw [add_block]; exact hI, hul, ?_, hrs⟩
  rw [add_add]
  rw [show l * sz + (0 + i) * sz = (0 + (l + i)) * sz from by rw [Nat.zero_add, Nat.zero_add, Nat.add_mul]]
  exact hat

theorem opt_lo (ok : StOk D I g w a ⟨env, h, nx⟩) {lo : Option Operand} {l : Int} (e : (match lo.map (ev env) with | none => some (0 : Int) | some v => aint v) = some l) :
    ((lo.map a.eval = none ∧ l = 0) ∨ ∃ k, lo.map a.eval = some (.int k l)) := by
  cases lo with
  | none => simp at e; exact .inl ⟨rfl, e.symm⟩
  | some x =>
    obtain ⟨k, hk⟩ := aint_rep e (ev_rep ok x).1
    exact .inr ⟨k, by simp [hk]⟩

theorem opt_hi (ok : StOk D I g w a ⟨env, h, nx⟩) {hi : Option Operand} {n : Nat} {u : Int} (e : (match hi.map (ev env) with | none => some (n : Int) | some v => aint v) = some u) :
    ((hi.map a.eval = none ∧ u = n) ∨ ∃ k, hi.map a.eval = some (.int k u)) := by
  cases hi with
  | none => simp at e; exact .inl ⟨rfl, e.symm⟩
  | some x =>
    obtain ⟨k, hk⟩ := aint_rep e (ev_rep ok x).1
    exact .inr ⟨k, by simp [hk]⟩

theorem step_slice {t : TypeId} {x : Operand} {lo hi : Option Operand} (ho : o.op = .slice t x lo hi none) (ok : StOk D I g w a ⟨env, h, nx⟩) {r : Res} (e : aslice P h t (ev env x) (lo.map (ev env)) (hi.map (ev env)) = some r) (hvc : r.vc) :
    Sound P o a D I g w h nid r := by
  obtain ⟨hr, hon⟩ := ev_rep ok x
  unfold aslice at e
  dsimp only at e
  split at e
  · rename_i l sz xs hl hx
    simp only [Option.bind_eq_some_iff] at e
    obtain ⟨u, hu, e⟩ := e
    split at e
    · rename_i hp
      cases e
      obtain ⟨h0, h1, h2⟩ : 0 ≤ l ∧ l ≤ u ∧ u ≤ xs.length := hvc
      obtain ⟨et, ht, hs⟩ := hp
      rw [hx] at hr
      simp only [RA] at hr
      have hr' := hr
      simp only [R, List.cons.injEq, and_true] at hr
      obtain ⟨ao, cap, hv, hle, _⟩ := hr
      rw [hv] at hr'
      have hb := run_bounds (P := P) (w := w) (isS := true) (opt_lo ok hl) (opt_hi ok hu) h0 h1 h2 hle
      refine .same ok.heap ok.small ?_ (by simp only [RA]; exact lst_sub hr' (l := l.toNat) (u := u.toNat) (by omega) (by omega)) (by simp only [AV.on])
      simp only [execOp, ho, hv]
      exact run_value (run_sliceAt_slice ht hs hb)
    · cases e
  · rename_i l hl hx
    simp only [Option.bind_eq_some_iff] at e
    obtain ⟨u, hu, e⟩ := e
    split at e
    · rename_i hp
      cases e
      obtain ⟨rfl, rfl⟩ : l = 0 ∧ u = 0 := hvc
      rw [Option.isSome_iff_exists] at hp
      obtain ⟨sz, hp⟩ := hp
      obtain ⟨et, ht, hs⟩ := pelem_spec hp
      rw [hx] at hr
      simp only [RA, R, List.cons.injEq, and_true] at hr
      have hv := hr
      have hb := run_bounds (P := P) (w := w) (isS := true) (len := 0) (cap := 0) (opt_lo ok hl) (opt_hi ok (n := 0) hu) (by omega) (by omega) (by omega) (by omega)
      refine .same (v := .slice none 0 0) ok.heap ok.small ?_ (by simp only [RA, R]) (by simp only [AV.on])
      simp only [execOp, ho, hv]
      exact run_value (run_sliceAt_slice ht hs hb)
    · cases e
  · rename_i l id n hl hx
    split at e
    · rename_i e0 sz xs fro fl hlk
      simp only [Option.bind_eq_some_iff] at e
      obtain ⟨u, hu, e⟩ := e
      split at e
      · rename_i hp
        obtain ⟨rfl, hp⟩ := hp
        cases e
        obtain ⟨h0, h1, h2⟩ : 0 ≤ l ∧ l ≤ u ∧ u ≤ xs.length := hvc
        obtain ⟨et, ht, hs⟩ := hp
        rw [hx] at hr
        simp only [RA, List.cons.injEq, and_true] at hr
        obtain ⟨ao, cap, hv, hh⟩ := hr
        obtain ⟨I', tr, hI⟩ := Tr.freeze ok.heap ok.small hlk
        have hr' := ok.heap.lst' hlk tr.fr.isub hI
        rw [hh] at hr'
        have hle : xs.length ≤ cap := by
          have := hr'
          simp only [R, List.cons.injEq, and_true] at this
          obtain ⟨_, _, e, hle, _⟩ := this
          cases e; exact hle
        have hb := run_bounds (P := P) (w := w) (isS := true) (opt_lo ok hl) (opt_hi ok hu) h0 h1 h2 hle
        refine .turned ?_ tr (by simp only [RA]; exact lst_sub hr' (l := l.toNat) (u := u.toNat) (by omega) (by omega)) (by simp only [AV.on])
        simp only [execOp, ho, hv]
        exact run_value (run_sliceAt_slice ht hs hb)
      · cases e
    · cases e
  · rename_i l s hl hx
    simp only [Option.bind_eq_some_iff] at e
    obtain ⟨u, hu, e⟩ := e
    split at e
    · rename_i hp
      cases e
      obtain ⟨h0, h1, h2⟩ : 0 ≤ l ∧ l ≤ u ∧ u ≤ s.size := hvc
      have hu' : P.underlying t = some .string := by unfold pstr at hp; split at hp <;> simp_all
      rw [hx] at hr
      simp only [RA, R, List.cons.injEq, and_true] at hr
      have hb := run_bounds (P := P) (w := w) (isS := false) (opt_lo ok hl) (opt_hi ok hu) h0 h1 h2 (Nat.le_refl _)
      refine .same (v := .string (s.extract l.toNat u.toNat)) ok.heap ok.small ?_ (by simp only [RA, R]) (by simp only [AV.on])
      simp only [execOp, ho, hr]
      refine run_value ?_
      simp [Instr.sliceAt, Instr.slice, Sem.run_bind, run_underlying hu', hb]
    · cases e
  · cases e
end
end Go.Abs

namespace Go.Abs
open Go Go.RowKit

section
variable {P : Program} {Z : Zeros} {wr : Bool} {D : Nat → Nat → Prop} {I : Nat → Prop} {g : Gh} {w : World} {h : Heap} {a : Act} {o : Oper} {nid nx : Nat} {env : List (Nat × AV)}

/-- the elements of what stays, one row -/
theorem RLL.row {ad : Addr} {sz : Nat} : ∀ {xs : List (List PV)} {k : Nat}, RLL I w xs (some ad) sz k → ∃ vals, RC I w sz xs vals ∧ At1 w (ad.add (k * sz)) vals ∧ vals.length = xs.length * sz
  | [], k, _ => ⟨[], by simp only [RC], ⟨fun j v hj => by simp at hj, by simp⟩, by simp⟩
  | x :: xs, k, h => by
    simp only [RLL] at h
    obtain ⟨⟨ad', us, e, hI, hl, hat, hr⟩, h2⟩ := h
    cases e
    obtain ⟨vals, hc, hat2, hl2⟩ := RLL.row h2
    refine ⟨us ++ vals, ⟨us, vals, rfl, hl, hr, hc⟩, ⟨?_, ?_⟩, by simp [hl, hl2, Nat.add_mul]; omega⟩
    · intro j v hj
      by_cases hlt : j < us.length
      · rw [List.getElem?_append_left hlt] at hj
        exact hat.1 j v hj
      · rw [List.getElem?_append_right (by omega)] at hj
        have := hat2.1 (j - us.length) v hj
        rw [add_add] at this ⊢
        rw [show k * sz + j = (k + 1) * sz + (j - us.length) from by rw [Nat.add_mul, hl]; omega]
        exact this
    · intro v hv
      rcases List.mem_append.1 hv with hv | hv
      · exact hat.2 v hv
      · exact hat2.2 v hv

theorem RC.fls {sz : Nat} : ∀ {xs : List (List PV)} {vals : List Value}, RC I w sz xs vals → RC (If I g (xs.all flats)) w sz xs vals
  | [], _, h => h
  | x :: xs, _, ⟨v1, v2, e, l, r, r'⟩ => by
    simp only [List.all_cons]
    exact ⟨v1, v2, e, l, Rs.mono (fun _ _ => rfl) (If.and1 fun _ h => h) _ _ (If.fls (g := g) x r), RC.mono (fun _ _ => rfl) (If.and2 fun _ h => h) (RC.fls r')⟩

/-- what is appended -/
theorem asrc_rep (ok : HOk D I g w h) {y : AV} {sz : Nat} {ys : List (List PV)} {v : Value} (e : asrc h y = some (sz, ys)) (hr : RA I g w y [v]) :
    ∃ ao cap, v = .slice ao ys.length cap ∧ ys.length ≤ cap ∧ (ys ≠ [] → ∃ ad vals, ao = some ad ∧ RC (If I g (freshSrc h y)) w sz ys vals ∧ At1 w ad vals ∧ vals.length = ys.length * sz) := by
  unfold asrc at e
  split at e
  · cases e
    simp only [RA, R, List.cons.injEq, and_true] at hr
    obtain ⟨ao, cap, rfl, hle, hrl⟩ := hr
    refine ⟨ao, cap, rfl, hle, fun hne => ?_⟩
    cases ys with
    | nil => exact absurd rfl hne
    | cons y ys =>
      have : ∃ ad, ao = some ad := by
        simp only [RLL] at hrl
        obtain ⟨⟨ad, _, e, _⟩, _⟩ := hrl
        exact ⟨ad, e⟩
      obtain ⟨ad, rfl⟩ := this
      obtain ⟨vals, h1, h2, h3⟩ := hrl.row
      refine ⟨ad, vals, rfl, RC.fls h1, ?_, h3⟩
      have e0 : ad.add (0 * sz) = ad := by simp [Addr.add]
      rwa [e0] at h2
  · rename_i id n
    split at e
    · rename_i e0 sz' ys' f0 f hl
      split at e
      · rename_i hlen
        cases e
        subst hlen
        simp only [RA, List.cons.injEq, and_true] at hr
        obtain ⟨ao, cap, rfl, hh⟩ := hr
        obtain ⟨vals, hown, hrc, _, h1⟩ := ok.blk id _ hl
        rcases hown.2 with ⟨e1, e2⟩ | ⟨gb, cap', cur, e1, _, hg, hle, _⟩
        · have hnil := List.eq_nil_of_length_eq_zero e2
          subst hnil
          rw [hh] at e1; cases e1
          exact ⟨none, 0, rfl, Nat.le_refl _, fun hne => absurd rfl hne⟩
        · rw [hh] at e1
          cases e1
          exact ⟨_, _, rfl, hle, fun _ => ⟨_, vals, rfl, by simp only [freshSrc, hl]; exact hrc, ⟨(ownsRow_at hown hh).1, h1⟩, hrc.length⟩⟩
      · cases e
    · cases e
  · cases e

/-- append onto an own row: as 'run_append_own' says, and which block it is in -/
theorem run_append_own' (t ty e : TypeId) (i : TypeInfo) (z : Value) (size bytes : Nat) (ht : P.underlying t = some (.slice e)) (hi : P.info? e = some i) (hz : i.zero = some z)
    (hsize : i.size = size) (hby : i.bytes = bytes) (hzs : z.cells.size = size) (hsz : 0 < size)
    (v : Value) (n : Nat) (xs : List Value) (hown : w.ownsRow 0 e size v n xs)
    (ad : Addr) (m c : Nat) (news : List Value) (hl : news.length = m * size) (hnews : ∀ j u, news[j]? = some u → w.cell? (ad.add j) = some u) (h1 : ∀ u ∈ news, u.oneCell' = true) (hm : m ≠ 0)
    (h63 : n + m ≤ maxLen) (hbytes : (n + m) * bytes ≤ 140737488355328) :
    ∃ v' w', (Builtin.append_ #[t, t] ty #[v, .slice (some ad) m c]).run P w = .ok v' w' ∧ w'.ownsRow 0 e size v' (n + m) (xs ++ news) ∧ w.grownBy w' v.ownBlock ∧
      (v'.ownBlock = v.ownBlock ∨ v'.ownBlock = some w.heap.size) ∧ CF w w' := by
  subst hsize
  subst hby
  have hsmall : n + m ≤ 9223372036854775807 := by simp only [maxLen] at h63; omega
  have hlen : (xs ++ news).length = (n + m) * i.size := by rw [List.length_append, hown.1, hl, Nat.add_mul]
  have grown : ∀ (old : Nat), old < n + m → ∀ (row : Option Nat),
      (w.drew.alloc (.cells (xs.toArray ++ news.toArray ++ Builtin.zeroCells z.cells (grownCap w (n + m) old e - (n + m))) e)).ownsRow 0 e i.size
        (.slice (some ⟨w.heap.size, 0, none⟩) (n + m) (grownCap w (n + m) old e)) (n + m) (xs ++ news) ∧
      w.grownBy (w.drew.alloc (.cells (xs.toArray ++ news.toArray ++ Builtin.zeroCells z.cells (grownCap w (n + m) old e - (n + m))) e)) row := by
    intro old ho row
    have hge := grownCap_ge w (n + m) old e
    have hcm : grownCap w (n + m) old e ≤ maxLen := grownCap_le_maxLen w (n + m) old e h63
    refine ⟨⟨hlen, .inr ⟨w.heap.size, _, _, rfl, Nat.zero_le _, heap_alloc_new w.drew _, hge, hcm, ?_, ?_⟩⟩, ⟨rfl, rfl, rfl, by simp, fun k hk _ => Below.heap_alloc w.drew _ k hk⟩⟩
    · simp only [Array.size_append, List.size_toArray, size_zeroCells, hzs, hown.1, hl, ← Nat.add_mul]
      congr 1
      omega
    · simp only [Array.toList_append, List.append_assoc]
      rw [← List.append_assoc, ← hlen]
      exact List.take_left
  have cfa : ∀ (C : Array Value) (T : TypeId), CF w (w.drew.alloc (.cells C T)) := fun C T => CF.trans (w1 := w.drew) (fun b C T fr h => .inr ⟨C, T, h⟩) (CF.alloc w.drew (by intro C T fr h; cases h; rfl))
  rcases hown.2 with ⟨rfl, rfl⟩ | ⟨gb, cap, cur, rfl, hbg, hg, hnc, hcm, hcs, htake⟩
  · have hx : xs = [] := List.eq_nil_of_length_eq_zero (by simpa using hown.1)
    subst hx
    have hr := run_append_nil (P := P) w t ty e i z ht hi hz ad m c news hl hnews (by omega) (by omega) (by have hb := hbytes; simp only [Nat.zero_add] at hb; omega)
    have hgr := grown 0 (by omega) (Value.ownBlock (.slice none 0 0))
    simp only [Nat.zero_add, List.nil_append, Array.empty_append] at hgr ⊢
    exact ⟨_, _, hr, hgr.1, hgr.2, .inr rfl, cfa _ _⟩
  · by_cases hroom : n + m ≤ cap
    · have hfit : n * i.size + news.length ≤ cur.size := by rw [hl, hcs, ← Nat.add_mul]; exact Nat.mul_le_mul_right _ hroom
      have hr := run_append_room (P := P) w t ty e i ht hi gb n cap cur hg ad m c news hl hnews h1 hroom hfit
      refine ⟨_, _, hr, ⟨hlen, .inr ⟨gb, cap, _, rfl, hbg, setRow_heap w gb cur _ e _ hg, hroom, hcm, ?_, ?_⟩⟩, ⟨rfl, rfl, rfl, by simp, fun k _ hk => setRow_other w gb k _ (fun e => hk (by simp [Value.ownBlock, e]))⟩, .inl rfl, CF.setRow hg _⟩
      · simp only [List.size_toArray, List.length_append, List.length_take, List.length_drop, Array.length_toList]
        omega
      · rw [htake, ← hlen]
        exact List.take_left
    · have holds : ∀ j u, xs[j]? = some u → w.cell? ((⟨gb, 0, none⟩ : Addr).add j) = some u := hown.cells (g := gb) rfl
      have hr := run_append_grow (P := P) w t ty e i z ht hi hz ⟨gb, 0, none⟩ n cap xs hown.1 holds ad m c news hl hnews (by omega) (by omega) (growslice_fits (by omega) hbytes)
      have hgr := grown cap (by omega) (Value.ownBlock (.slice (some ⟨gb, 0, none⟩) n cap))
      exact ⟨_, _, hr, hgr.1, hgr.2, .inr rfl, cfa _ _⟩

/-- nothing is appended -/
theorem run_append_none (t ty e : TypeId) (i : TypeInfo) (ht : P.underlying t = some (.slice e)) (hi : P.info? e = some i) (base : Option Addr) (sLen sCap : Nat) (hle : sLen ≤ sCap) (ao : Option Addr) (cap : Nat) :
    (Builtin.append_ #[t, t] ty #[.slice base sLen sCap, .slice ao 0 cap]).run P w = .ok (.slice base sLen sCap) w := by
  cases base <;> cases ao <;> simp [Builtin.append_, run_underlying ht, sizeOf, typeInfo, hi, Builtin.lenOf, hle, Builtin.firstCells, loadCells, loadCellsFrom, storeCells]

theorem zero_size {e : TypeId} (hz : ZOk P Z) {n : Nat} (hne : (Z e).isEmpty = false) (hs : psz P e = some n) : ∃ i z, P.info? e = some i ∧ i.zero = some z ∧ i.size = n ∧ z.cells.size = n ∧ (∀ v ∈ z.cells.toList, v.oneCell' = true) ∧ ∀ I w, Rs I w (Z e) z.cells.toList := by
  obtain ⟨i, z, hi, hzz, hc, h1, hr⟩ := hz e (by intro h; simp [h] at hne)
  have : i.size = n := by unfold psz at hs; simpa [hi] using hs
  exact ⟨i, z, hi, hzz, this, by rw [hc, this], h1, hr⟩

theorem pelem_und {t et : TypeId} (ht : pelem P t = some et) : P.underlying t = some (.slice et) := by unfold pelem at ht; split at ht <;> simp_all

theorem maxLen_le {n : Nat} (h : n ≤ 9223372036854775807) : n ≤ maxLen := by simpa only [maxLen] using h

theorem step_append {t : TypeId} {x y : Operand} (ho : o.op = .call { callee := .builtin .append, args := #[x, y], argTypes := #[t, t] }) (hz : ZOk P Z) (ok : StOk D I g w a ⟨env, h, nx⟩) (hn : ∀ m, ¬ D nid m)
    {r : Res} (e : aappend P Z h nid t (ev env x) (ev env y) = some r) (hvc : r.vc) : Sound P o a D I g w h nid r := by
  obtain ⟨hx, ox⟩ := ev_rep ok x
  obtain ⟨hy, oy⟩ := ev_rep ok y
  have hexec : ∀ v w', (Builtin.append_ #[t, t] o.type #[a.eval x, a.eval y]).run P w = .ok v w' → (execOp a.eval o).run P w = .ok (.value v) w' := by
    intro v w' hr
    simp only [execOp, ho, resolve, invoke, builtin, Sem.run_bind, Sem.run_pure, Result.andThen_ok, List.map_toArray, List.map_cons, List.map_nil, hr]
  unfold aappend at e
  simp only [Option.bind_eq_some_iff] at e
  obtain ⟨et, ht, e⟩ := e
  have hu := pelem_und ht
  split at e
  case isTrue => cases e
  rename_i hze
  simp only [Bool.not_eq_true] at hze
  obtain ⟨i, z, hi, hzz, hzc, hz1, hzr⟩ := hz et (by intro h; simp [h] at hze)
  split at e
  · -- nothing onto nothing
    rename_i e1 e2
    cases e
    rw [e1] at hx; rw [e2] at hy
    simp only [RA, R, List.cons.injEq, and_true] at hx hy
    exact .same (v := .slice none 0 0) ok.heap ok.small (hexec _ _ (by rw [hx, hy]; exact run_append_none t o.type et i hu hi none 0 0 (Nat.le_refl _) none 0)) (by simp only [RA, R]) (by simp only [AV.on])
  · -- nothing onto a list
    rename_i id n e1 e2
    split at e
    · rename_i e0 sz0 xs0 f0 fl0 hlk
      split at e
      · rename_i hlen
        cases e
        subst hlen
        have hx' := hx
        rw [e1] at hx ox; rw [e2] at hy
        simp only [RA, R, AV.on, List.cons.injEq, and_true] at hx hy ox
        obtain ⟨ao, cap, hv, hh⟩ := hx
        have hle : xs0.length ≤ cap := by
          obtain ⟨vals, hown, _⟩ := ok.heap.blk id _ hlk
          rcases hown.2 with ⟨q1, q2⟩ | ⟨gb, cap', cur, q1, _, _, hle, _⟩
          · omega
          · rw [hh] at q1; cases q1; exact hle
        exact .same (v := .slice ao xs0.length cap) ok.heap ok.small (hexec _ _ (by rw [hv, hy]; exact run_append_none t o.type et i hu hi ao _ cap hle none 0)) (by simp only [RA]; exact ⟨ao, cap, rfl, hh⟩) (by simpa only [AV.on] using ox)
      · cases e
    · cases e
  · -- onto nothing
    rename_i y' e1 hyn
    simp only [Option.bind_eq_some_iff] at e
    obtain ⟨⟨sz, ys⟩, hsrc, e⟩ := e
    dsimp only at e
    split at e
    · rename_i hp
      obtain ⟨hp, hsz⟩ := hp
      cases e
      obtain ⟨hb, hm⟩ : ys.length * pby P et ≤ 140737488355328 ∧ ys.length ≤ 9223372036854775807 := hvc
      rw [e1] at hx
      simp only [RA, R, List.cons.injEq, and_true] at hx
      obtain ⟨ao, cap, hv, hcap, hne⟩ := asrc_rep ok.heap hsrc hy
      have hisz : i.size = sz := by unfold psz at hp; rw [hi] at hp; simpa using hp.symm
      have hby : pby P et = i.bytes := by simp [pby, hi]
      by_cases hys : ys = []
      · subst hys
        have hr := run_append_none (P := P) (w := w) t o.type et i hu hi none 0 0 (Nat.le_refl _) ao cap
        exact Sound.newList (vals := []) (v := .slice none 0 0) (n := 0) (Tr.refl ok.heap ok.small) hn rfl (hexec _ _ (by rw [hx, hv]; exact hr)) (Below.refl _ _) (CF.refl _) (fun _ _ => rfl) (World.ownsRow_nil w w.heap.size et sz) (by simp only [RC]) (by simp)
      · obtain ⟨ad, vals, rfl, hrc, hat, hl⟩ := hne hys
        have hlen0 : ys.length ≠ 0 := fun h0 => hys (List.eq_nil_of_length_eq_zero h0)
        obtain ⟨v', w', hr, hown, hgr, hblk, hcf⟩ := run_append_own' (P := P) (w := w) t o.type et i z sz i.bytes hu hi hzz hisz rfl (by rw [hzc, hisz]) hsz (.slice none 0 0) 0 [] (World.ownsRow_nil w 0 et sz) ad ys.length cap vals hl hat.1 hat.2 hlen0 (maxLen_le (by omega)) (by rw [hby] at hb; simpa using hb)
        simp only [Nat.zero_add, List.nil_append] at hown
        have hfresh : w'.ownsRow w.heap.size et sz v' ys.length vals := by
          refine ⟨hown.1, ?_⟩
          rcases hown.2 with q | ⟨gb, cap', cur, q1, q2, rest⟩
          · exact .inl q
          · refine .inr ⟨gb, cap', cur, q1, ?_, rest⟩
            rw [q1] at hblk
            simp [Value.ownBlock] at hblk
            omega
        refine Sound.newList (vals := vals) (v := v') (Tr.refl ok.heap ok.small) hn rfl (hexec _ _ (by rw [hx, hv]; exact hr)) ?_ hcf ?_ hfresh hrc hat.2
        · exact (Below.refl 0 w).grown hgr (Nat.zero_le _) (fun _ _ => Nat.zero_le _)
        · exact fun b hb => hgr.block b hb (by simp [Value.ownBlock])
    · cases e
  · -- onto a list

    rename_i id n e1 hyn
    split at e
    · rename_i e0 sz' xs fl sz ys hlk hsrc
      split at e
      · rename_i hc
        obtain ⟨rfl, rfl, hp, hsz, rfl, hself⟩ := hc
        cases e
        obtain ⟨hb, hm⟩ : (xs.length + ys.length) * pby P e0 ≤ 140737488355328 ∧ xs.length + ys.length ≤ 9223372036854775807 := hvc
        have hox := ox
        have hxx := hx
        rw [e1] at hx ox
        simp only [RA, AV.on, List.cons.injEq, and_true] at hx ox
        obtain ⟨bo, bcap, hbv, hh⟩ := hx
        obtain ⟨ao, cap, hv, hcap, hne⟩ := asrc_rep ok.heap hsrc hy
        have hisz : i.size = sz' := by unfold psz at hp; rw [hi] at hp; simpa using hp.symm
        have hby : pby P e0 = i.bytes := by simp [pby, hi]
        have hbo := ok.heap.blk id _ hlk
        obtain ⟨vals0, hown0, hrc0, hk0, h10⟩ := hbo
        have hdom := ok.heap.dom id _ hlk
        have hble : xs.length ≤ bcap := by
          rcases hown0.2 with ⟨q1, q2⟩ | ⟨gb, cap', cur, q1, _, _, hle, _⟩
          · omega
          · rw [hh] at q1; cases q1; exact hle
        by_cases hys : ys = []
        · subst hys
          have hr := run_append_none (P := P) (w := w) t o.type e0 i hu hi bo xs.length bcap hble ao cap
          simp only [List.append_nil, List.length_nil, Nat.add_zero]
          refine .turned (hexec _ _ (by rw [hbv, hv]; exact hr)) (Tr.turn (y := .list e0 sz' xs false (fl && freshSrc h (ev env y))) ok.heap ok.small hlk rfl (Below.refl _ _) (CF.refl _) (fun _ _ _ => rfl) (Gh.same.refl _ _) (Gh.kp.refl _) (fun _ _ h => h) ⟨vals0, hown0, RC.mono (fun _ _ => rfl) (If.and1 fun _ h => h) hrc0, hk0, h10⟩ hdom (fun _ _ _ h => h) (fun b hb => .inl hb)) ?_ (by simpa only [AV.on] using ox)
          simp only [RA]
          exact ⟨bo, bcap, rfl, hh⟩
        · obtain ⟨ad, vals, rfl, hrc, hat, hl⟩ := hne hys
          have hlen0 : ys.length ≠ 0 := fun h0 => hys (List.eq_nil_of_length_eq_zero h0)
          obtain ⟨v', w', hr, hown, hgr, hblk, hcf⟩ := run_append_own' (P := P) (w := w) t o.type e0 i z sz' i.bytes hu hi hzz hisz rfl (by rw [hzc, hisz]) hsz _ _ vals0 hown0 ad ys.length cap vals hl hat.1 hat.2 hlen0 (maxLen_le (by omega)) (by rw [hby] at hb; exact hb)
          have hnot : ¬ D id (xs.length + ys.length) := fun hd => by have := hdom.2 _ hd; omega
          have gs : Gh.same D g (g.withHdr id (xs.length + ys.length) v') := Gh.withHdr_same hnot
          have hhdr : (g.withHdr id (xs.length + ys.length) v').hdr id (xs ++ ys).length = v' := by simp [Gh.withHdr]
          have hnI : ∀ b, I b → (g.hdr id xs.length).ownBlock ≠ some b := fun b hb hq => by
            have := (hk0 b hq).1.1 hb; simp at this
          have so : SameOn I w w' := fun b hb => hgr.block b (ok.small b hb) (fun hq => hnI b hb hq.symm)
          have hslice : ∃ ao' c, v' = .slice ao' (xs.length + ys.length) c := by
            rcases hown.2 with ⟨q1, q2⟩ | ⟨gb, cap', cur, q1, _⟩
            · omega
            · exact ⟨_, cap', q1⟩
          refine ⟨v', w', plus D id (xs.length + ys.length), I, g.withHdr id (xs.length + ys.length) v', .inl (hexec _ _ (by rw [hbv, ← hh, hv]; exact hr)), ?_, ?_, ?_, ?_⟩
          · refine Tr.turn ok.heap ok.small hlk rfl ((Below.refl 0 w).grown hgr (Nat.zero_le _) (fun _ _ => Nat.zero_le _)) hcf (fun b hb hne => hgr.block b hb (fun hq => hne hq.symm)) gs ⟨rfl, rfl⟩ plus_sub ?_ ?_ ?_ ?_
            · refine ⟨vals0 ++ vals, ?_, (RC.mono (I' := If I g (fl && freshSrc h (ev env y))) (fun b hb => so b hb.1) (If.and1 fun _ h => h) hrc0).append (RC.mono (fun b hb => so b hb.1) (If.and2 fun _ h => h) hrc), fun k hk => ⟨⟨fun hi => ?_, fun hf => by cases hf⟩, ?_⟩, fun u hu => ?_⟩
              · rw [hhdr, List.length_append]; exact hown
              · rw [hhdr] at hk
                rcases hblk with q | q
                · rw [q] at hk; exact absurd hk (hnI k hi)
                · rw [q] at hk
                  cases hk
                  have := ok.small _ hi
                  omega
              · rw [hhdr] at hk
                rcases hblk with q | q
                · rw [q] at hk; exact (hk0 k hk).2
                · rw [q] at hk; cases hk; exact ok.heap.new.1
              · rcases List.mem_append.1 hu with hu | hu
                · exact h10 u hu
                · exact hat.2 u hu
            · refine ⟨.inr ⟨rfl, by simp⟩, fun m hm => ?_⟩
              rcases hm with hm | ⟨_, rfl⟩
              · have := hdom.2 m hm; simp; omega
              · simp
            · rintro j m hj (hd | ⟨rfl, _⟩)
              · exact hd
              · exact absurd rfl hj
            · intro b hb
              simp only [ownB, hhdr] at hb
              rcases hblk with q | q
              · rw [q] at hb; exact .inl hb
              · rw [q] at hb; cases hb; exact .inr (Nat.le_refl _)
          · obtain ⟨ao', c, q⟩ := hslice
            simp only [RA]
            refine ⟨ao', c, by rw [q], ?_⟩
            rw [List.length_append] at hhdr
            rw [hhdr, q]
          · simp only [AV.on]; exact .inr ⟨rfl, rfl⟩
          · rintro j m (hd | ⟨rfl, _⟩)
            · exact .inl ⟨m, hd⟩
            · exact .inl ⟨_, ox⟩
      · cases e
    · cases e
  · cases e
end
end Go.Abs

namespace Go.Abs
open Go Go.RowKit

section
variable {P : Program} {Z : Zeros} {wr : Bool} {D : Nat → Nat → Prop} {I : Nat → Prop} {g : Gh} {w : World} {h : Heap} {a : Act} {o : Oper} {nid nx : Nat} {env : List (Nat × AV)}

theorem foldl_set (off : Nat) : ∀ (vs : List Value) (k : Nat) (cs : Array Value), off + k + vs.length ≤ cs.size →
    (vs.zipIdx k).foldl (fun cs (x : Value × Nat) => cs.setIfInBounds (off + x.2) x.1) cs = (cs.toList.take (off + k) ++ vs ++ cs.toList.drop (off + k + vs.length)).toArray
  | [], k, cs, _ => by simp
  | v :: vs, k, cs, hl => by
    simp only [List.length_cons] at hl
    simp only [List.zipIdx_cons, List.foldl_cons]
    rw [foldl_set off vs (k + 1) _ (by simp; omega)]
    apply Array.ext'
    simp only [Array.toList_setIfInBounds, List.length_cons]
    have h1 : (cs.toList.set (off + k) v).take (off + (k + 1)) = cs.toList.take (off + k) ++ [v] := by
      rw [← Nat.add_assoc, List.take_succ_eq_append_getElem (by simp; omega), List.take_set_of_le (Nat.le_refl _)]
      simp
    have h2 : (cs.toList.set (off + k) v).drop (off + (k + 1) + vs.length) = cs.toList.drop (off + k + (vs.length + 1)) := by
      rw [List.drop_set_of_lt (by omega)]
      congr 1
      omega
    rw [h1, h2]
    simp

theorem fill_cons {place : Nat → Option (Nat × Nat)} {C : Array Value} {i off size : Nat} {v : Value} {rest : List (Nat × Value)} (hp : place i = some (off, size)) (hs : v.cells.toList.length = size) (hl : off + size ≤ C.size) :
    Instr.fill place C ((i, v) :: rest) = Instr.fill place (C.toList.take off ++ v.cells.toList ++ C.toList.drop (off + size)).toArray rest := by
  have hs' : v.cells.size = size := by simpa using hs
  have hf := foldl_set off v.cells.toList 0 C (by omega)
  simp only [Nat.add_zero] at hf
  conv => lhs; unfold Instr.fill
  simp only [hp]
  rw [if_neg (by simp [hs']; omega)]
  congr 1
  rw [← Array.foldl_toList, Array.toList_zipIdx, hf, hs]

theorem oneB_of {c : AV} (h1 : (cellsOf c).all oneB = true) {v : Value} (hr : RA I g w c [v]) : RAs I g w (cellsOf c) v.cells.toList := by
  have hu : c ≠ .undef := by rintro rfl; simp [cellsOf, oneB] at h1
  rcases cellsOf_rep hr hu with r | ⟨n, xs, rfl⟩
  · exact r
  · simp [cellsOf, oneB] at h1

theorem fill_rep (ok : StOk D I g w a ⟨env, h, nx⟩) {place : Nat → Option (Nat × Nat)} : ∀ {parts : List (Nat × Operand)} {cells cs : List AV} {C : Array Value}, RAs I g w cells C.toList → AV.ons D cells →
    afill place cells (parts.map fun (i, x) => (i, ev env x)) = some cs →
    ∃ C', Instr.fill place C (parts.map fun (i, x) => (i, a.eval x)) = some C' ∧ RAs I g w cs C'.toList ∧ AV.ons D cs
  | [], cells, cs, C, hr, hon, e => by
    simp only [List.map_nil, afill, Option.some.injEq] at e
    subst e
    exact ⟨C, by simp [Instr.fill], hr, hon⟩
  | (i, x) :: parts, cells, cs, C, hr, hon, e => by
    obtain ⟨hx, ox⟩ := ev_rep ok x
    simp only [List.map_cons, afill] at e
    split at e
    · rename_i off size hp
      split at e
      · rename_i hc
        obtain ⟨hw, h1⟩ := hc
        simp only [Option.bind_eq_some_iff] at e
        obtain ⟨cs1, e1, e2⟩ := e
        have hrx := oneB_of h1 hx
        have hwx := hrx.width
        obtain ⟨hle, hr1⟩ := hr.putAt hrx e1
        have hlen : (a.eval x).cells.toList.length = size := by rw [hwx]; exact hw
        simp only [List.map_cons]
        rw [fill_cons hp hlen (by rw [hlen] at hle; simpa using hle)]
        refine fill_rep ok ?_ (ons_putAt hon (ons_cellsOf ox) e1) e2
        rw [← hlen]; simpa using hr1
      · cases e
    · cases e

theorem step_build {t : TypeId} {parts : Array (Nat × Operand)} (ho : o.op = .build t parts) (hz : ZOk P Z) (ok : StOk D I g w a ⟨env, h, nx⟩) (hne : (Z t).isEmpty = false) {pl : List (Nat × Nat)} (hp : pplaces P t = some pl)
    {cs : List AV} (e : afill (fun f => pl[f]?) ((Z t).map .p) (aparts env parts) = some cs) : Sound P o a D I g w h nid ⟨True, .agg cs, h⟩ := by
  obtain ⟨i, z, hi, hzz, hzc, hz1, hzr⟩ := hz t (by intro h; simp [h] at hne)
  unfold pplaces at hp
  split at hp
  · rename_i fs hu
    obtain ⟨C', hf, hr, hon⟩ := fill_rep ok (C := z.cells) (RAs_p (g := g) (hzr I w)) (ons_p _) e
    refine .same (v := .agg C') ok.heap ok.small ?_ (by simp only [RA]; exact ⟨C', rfl, hr⟩) (by simpa only [AV.on] using hon)
    simp only [execOp, ho]
    refine run_value ?_
    have hpl := run_places w fs.toList pl hp
    simp [Instr.build, run_underlying hu, typeInfo, zeroValue, hi, hzz, Array.mapM_eq_mapM_toList, hpl]
    have hf2 : Instr.fill (fun x => pl[x]?) z.cells (List.map (fun x => (x.fst, a.eval x.snd)) parts.toList) = some C' := hf
    rw [hf2]
    rfl
  · cases hp
/-- a slice literal's elements -/
theorem elems_rep (ok : StOk D I g w a ⟨env, h, nx⟩) {e : TypeId} {sz : Nat} (hs : psz P e = some sz) : ∀ {parts : List (Nat × Operand)} {k : Nat} {h1 : Heap} {I1 : Nat → Prop} {xs : List (List PV)} {C : Array Value}, Tr D I g w h D I1 g w h1 →
    SameL h h1 → aelems P e h k (parts.map fun (i, x) => (i, ev env x)) = some xs → (k + parts.length) * sz ≤ C.size →
    ∃ C' I' vals, Instr.fill (fun i => some (i * sz, sz)) C (parts.map fun (i, x) => (i, a.eval x)) = some C' ∧ Tr D I g w h D I' g w (frzParts h1 (parts.map fun (i, x) => (i, ev env x))) ∧ RC (If I' g ((parts.map fun (i, x) => (i, ev env x)).all fun q => freshAs h (cellsOf q.2))) w sz xs vals ∧ (∀ v ∈ vals, v.oneCell' = true) ∧
      xs.length = parts.length ∧ C'.toList = C.toList.take (k * sz) ++ vals ++ C.toList.drop ((k + parts.length) * sz) ∧ ∀ b, I1 b → I' b
  | [], k, h1, I1, xs, C, t, sl, e, hl => by
    simp only [List.map_nil, aelems, Option.some.injEq] at e
    subst e
    exact ⟨C, I1, [], by simp [Instr.fill], by simpa only [List.map_nil, frzParts] using t, by simp only [RC], by simp, rfl, by simp, fun _ h => h⟩
  | (i, x) :: parts, k, h1, I1, xs, C, t, sl, e, hl => by
    obtain ⟨hx, ox⟩ := ev_rep ok x
    simp only [List.map_cons, aelems] at e
    split at e
    · rename_i hc
      obtain ⟨rfl, hw, h1w⟩ := hc
      simp only [Option.bind_eq_some_iff, Option.map_eq_some_iff] at e
      obtain ⟨c, e1, xs', e2, rfl⟩ := e
      rw [hs, Option.some.injEq] at hw
      have hrx := cells_rep hx h1w
      have hone := oneCells_of_rep hrx h1w
      have hwx := hrx.width
      have hlen : (a.eval x).cells.toList.length = sz := by rw [hwx]; exact hw
      have hrx1 : RAs I1 g w (cellsOf (ev env x)) (a.eval x).cells.toList := RAs.mono' (fun b hb => t.fr.isub b hb) hrx
      obtain ⟨I2, t2, q2⟩ := frzs_repF (D := D) (cellsOf (ev env x)) t.heap t.small (by rw [toPs_same sl]; exact e1) hrx1
      simp only [List.length_cons] at hl
      have hmul : (i + 1) * sz = i * sz + sz := by rw [Nat.add_mul]; omega
      have hle : i * sz + sz ≤ (i + (parts.length + 1)) * sz := by rw [← hmul]; exact Nat.mul_le_mul_right _ (by omega)
      obtain ⟨C', I', vals, hf, t', hrc, h1', hlx, hC, hII⟩ := elems_rep ok hs (parts := parts) (k := i + 1) (xs := xs') (C := (C.toList.take (i * sz) ++ (a.eval x).cells.toList ++ C.toList.drop (i * sz + sz)).toArray) (t.trans t2) (sl.trans (frzs_same _ _)) e2
        (by simp only [List.size_toArray, List.length_append, List.length_take, List.length_drop, hlen, Array.length_toList]; rw [show i + 1 + parts.length = i + (parts.length + 1) from by omega]; omega)
      refine ⟨C', I', (a.eval x).cells.toList ++ vals, ?_, ?_, ⟨_, vals, rfl, hlen, ?_, ?_⟩, ?_, by simp [hlx], ?_, fun b hb => hII b (t2.fr.isub b hb)⟩
      case refine_3 =>
        rw [freshAs_same sl] at q2
        simp only [List.map_cons, List.all_cons]
        exact Rs.mono (fun _ _ => rfl) (If.and1 hII) _ _ q2
      case refine_4 =>
        simp only [List.map_cons, List.all_cons]
        exact RC.mono (fun _ _ => rfl) (If.and2 fun _ h => h) hrc
      · simp only [List.map_cons]
        rw [fill_cons rfl hlen (by omega)]
        exact hf
      · simpa only [List.map_cons, frzParts] using t'
      · intro v hv
        rcases List.mem_append.1 hv with hv | hv
        · exact hone v hv
        · exact h1' v hv
      · rw [hC]
        have hA : (C.toList.take (i * sz)).length = i * sz := by simp; omega
        have h1 : (C.toList.take (i * sz) ++ (a.eval x).cells.toList).length = (i + 1) * sz := by rw [List.length_append, hA, hlen, hmul]
        have h2 : (i + 1 + parts.length) * sz = (i + 1) * sz + parts.length * sz := Nat.add_mul ..
        have h3 : (i + (parts.length + 1)) * sz = (i + 1) * sz + parts.length * sz := by rw [← h2]; congr 1; omega
        rw [List.length_cons, h2, h3]
        show (C.toList.take (i * sz) ++ (a.eval x).cells.toList ++ C.toList.drop (i * sz + sz)).take ((i + 1) * sz) ++ vals ++ (C.toList.take (i * sz) ++ (a.eval x).cells.toList ++ C.toList.drop (i * sz + sz)).drop ((i + 1) * sz + parts.length * sz) = _
        rw [← h1, List.take_left, List.drop_length_add_append, List.drop_drop, h1, hmul]
        simp
    · cases e

theorem step_buildSlice {t et : TypeId} {len sz : Nat} {parts : Array (Nat × Operand)} (ho : o.op = .buildSlice t len parts) (hz : ZOk P Z) (ok : StOk D I g w a ⟨env, h, nx⟩) (hn : ∀ m, ¬ D nid m) (ht : pelem P t = some et) (hs : psz P et = some sz)
    (hlen : parts.size = len) (hmax : len * sz ≤ 16777216) (hsz : 0 < sz) (hne : (Z et).isEmpty = false) {xs : List (List PV)} (e : aelems P et h 0 (aparts env parts) = some xs) :
    Sound P o a D I g w h nid ⟨True, .hs nid len, (nid, .list et sz xs false ((aparts env parts).all fun q => freshAs h (cellsOf q.2))) :: frzParts h (aparts env parts)⟩ := by
  obtain ⟨i, z, hi, hzz, hisz, hzs, hz1, hzr⟩ := zero_size (P := P) hz hne hs
  have hu := pelem_und ht
  have hsr := psz_run (w := w) hs
  obtain ⟨zero, hzero⟩ : ∃ zero : Array Value, zero = if len * sz = 0 then #[] else z.cells := ⟨_, rfl⟩
  obtain ⟨C, hC⟩ : ∃ C : Array Value, C = (Array.range (len * sz)).map (zero[· % zero.size]!) := ⟨_, rfl⟩
  have hCs : C.size = len * sz := by rw [hC]; simp
  have hpl : parts.toList.length = len := by simpa using hlen
  obtain ⟨C', I', vals, hf, tr, hrc, h1v, hlx, hC', _⟩ := elems_rep ok hs (parts := parts.toList) (k := 0) (C := C) (Tr.refl ok.heap ok.small) (SameL.refl h) e (by rw [Nat.zero_add, hpl]; omega)
  have hvl : C'.toList = vals := by
    rw [hC', Nat.zero_mul, Nat.zero_add, hpl, List.take_zero, List.drop_eq_nil_of_le (by simp [hCs])]
    simp
  have hvn : vals.length = len * sz := by rw [hrc.length, hlx, hpl]
  refine Sound.newList (vals := vals) (v := .slice (some ⟨w.heap.size, 0, none⟩) len len) (w' := w.alloc (.cells C' et)) tr hn (by rw [hlx, hpl]) ?_ ⟨rfl, rfl, rfl, by simp, fun k hk => absurd hk (by omega)⟩ (CF.alloc w (by intro C T fr h; cases h; rfl)) (fun b hb => Below.heap_alloc w _ b hb) ?_ hrc h1v
  · simp only [execOp, ho]
    refine run_value ?_
    have hf2 : Instr.fill (fun i => some (i * sz, sz)) (Array.map (fun x => zero[x % zero.size]!) (Array.range (len * sz))) (List.map (fun x => (x.fst, a.eval x.snd)) parts.toList) = some C' := by rw [← hC]; exact hf
    by_cases h0 : len * sz = 0
    · rw [if_pos h0] at hzero
      subst hzero
      simp [Instr.buildSlice, run_underlying hu, hsr, h0] at hf2 ⊢
      rw [hf2]; rfl
    · rw [if_neg h0] at hzero
      subst hzero
      have : ¬ len * sz > 2 ^ 24 := by omega
      have hzv : (zeroValue et).run P w = .ok z w := by simp [zeroValue, typeInfo, hi, hzz]
      simp only [Instr.buildSlice, Sem.run_bind, run_underlying hu, hsr, Result.andThen_ok, if_neg this, if_neg h0, Sem.run_pure, hzv]
      rw [show (Array.map (fun x => match x with | (i, x) => (i, a.eval x)) parts).toList = List.map (fun x => (x.fst, a.eval x.snd)) parts.toList from by simp]
      rw [hf2]; rfl
  · refine ⟨hvn, .inr ⟨w.heap.size, len, C', rfl, Nat.le_refl _, heap_alloc_new w _, Nat.le_refl _, ?_, ?_, ?_⟩⟩
    · have : len ≤ len * sz := Nat.le_mul_of_pos_right _ hsz
      simp only [maxLen]; omega
    · have : C'.toList.length = len * sz := by rw [hvl, hvn]
      simpa using this
    · rw [hvl, List.take_of_length_le (by omega)]

theorem range_mod (zs : Array Value) (sz : Nat) (hz : zs.size = sz) (hsz : 0 < sz) : ∀ n, (List.range (n * sz)).map (fun j => zs[j % zs.size]!) = (List.replicate n zs.toList).flatten
  | 0 => by simp
  | n + 1 => by
    rw [show (n + 1) * sz = n * sz + sz from by rw [Nat.add_mul]; omega, List.range_add, List.map_append, range_mod zs sz hz hsz n, List.replicate_succ', List.flatten_append]
    congr 1
    simp only [List.map_map, List.flatten_cons, List.flatten_nil, List.append_nil]
    apply List.ext_getElem
    · simp [hz]
    · intro i h1 h2
      simp at h1 h2
      simp only [List.getElem_map, List.getElem_range, Function.comp_apply, Array.getElem_toList]
      rw [show (n * sz + i) % zs.size = i from by rw [hz, Nat.add_comm, Nat.add_mul_mod_self_right, Nat.mod_eq_of_lt h1]]
      exact getElem!_pos zs i h2

theorem RC.replicate {sz : Nat} {e : List PV} {us : List Value} (hl : us.length = sz) (hr : Rs I w e us) : ∀ n, RC I w sz (List.replicate n e) (List.replicate n us).flatten
  | 0 => by simp [RC]
  | n + 1 => by
    simp only [List.replicate_succ, List.flatten_cons, RC]
    exact ⟨us, _, rfl, hl, hr, RC.replicate hl hr n⟩

theorem step_makeSlice {t et : TypeId} {x y : Operand} {n m : Int} {k k' : IntKind} {sz : Nat} (ho : o.op = .makeSlice t x y) (hz : ZOk P Z) (ok : StOk D I g w a ⟨env, h, nx⟩) (hn : ∀ m, ¬ D nid m) (ht : pelem P t = some et) (hs : psz P et = some sz) (hsz : sz ≠ 0)
    (hne : (Z et).isEmpty = false) (hx : ev env x = .p (.int k n)) (hy : ev env y = .p (.int k' m)) (h0 : 0 ≤ n) (hnm : n ≤ m) (hb : m * pby P et ≤ 140737488355328) (h63 : m ≤ 9223372036854775807) {vc : Prop} :
    Sound P o a D I g w h nid ⟨vc, .hs nid n.toNat, (nid, .list et sz (List.replicate n.toNat (Z et)) false (flats (Z et))) :: h⟩ := by
  obtain ⟨i, z, hi, hzz, hisz, hzs, hz1, hzr⟩ := zero_size (P := P) hz hne hs
  have hu := pelem_und ht
  obtain ⟨hrx, _⟩ := ev_rep ok x
  obtain ⟨hry, _⟩ := ev_rep ok y
  rw [hx] at hrx; rw [hy] at hry
  simp only [RA, R, List.cons.injEq, and_true] at hrx hry
  have hby : pby P et = i.bytes := by simp [pby, hi]
  have hmk := run_make (P := P) w t et i z hu hi hzz k k' n m h0 hnm (by rw [hby] at hb; rw [Int.mul_comm]; omega) h63
  have hm1 : n.toNat ≤ m.toNat := by omega
  have hpos : 0 < sz := Nat.pos_of_ne_zero hsz
  refine Sound.newList (vals := (List.replicate n.toNat z.cells.toList).flatten) (v := .slice (some ⟨w.heap.size, 0, none⟩) n.toNat m.toNat) (w' := w.alloc (.cells (madeCells z.cells (m.toNat * i.size)) et)) (Tr.refl ok.heap ok.small) hn (by simp) ?_ ⟨rfl, rfl, rfl, by simp, fun k hk => absurd hk (by omega)⟩
    (CF.alloc w (by intro C T fr h; cases h; rfl)) (fun b hb => Below.heap_alloc w _ b hb) ?_ (RC.replicate (by simpa using hzs) (hzr _ w) _) ?_
  · simp only [execOp, ho, hrx, hry]
    exact run_value hmk
  · have hfl : ((List.replicate n.toNat z.cells.toList).flatten).length = n.toNat * sz := by simp [hzs]
    have hmade : (madeCells z.cells (m.toNat * i.size)).toList = (List.range (m.toNat * sz)).map (fun j => z.cells[j % z.cells.size]!) := by simp [madeCells, hisz]
    refine ⟨hfl, .inr ⟨w.heap.size, m.toNat, _, rfl, Nat.le_refl _, heap_alloc_new w _, hm1, maxLen_le (by omega), ?_, ?_⟩⟩
    · simp [madeCells, hisz]
    · rw [hmade, range_mod z.cells sz hzs hpos]
      rw [show m.toNat = n.toNat + (m.toNat - n.toNat) from by omega, ← List.replicate_append_replicate, List.flatten_append, ← hfl, List.take_left]
  · intro v hv
    simp only [List.mem_flatten, List.mem_replicate] at hv
    obtain ⟨l, ⟨_, rfl⟩, hv⟩ := hv
    exact hz1 v hv

theorem u8s_RC {I : Nat → Prop} {w : World} : ∀ {ys : List (List PV)} {ns : List Int} {vals : List Value}, u8s ys = some ns → RC I w 1 ys vals → vals = ns.map (Value.int .u8)
  | [], ns, vals, h, r => by simp only [u8s, Option.some.injEq] at h; subst h; simpa only [RC, List.map_nil] using r
  | y :: ys, ns, vals, h, r => by
    unfold u8s at h
    split at h
    · rename_i e; cases e
    · rename_i n r' e
      cases e
      simp only [Option.map_eq_some_iff] at h
      obtain ⟨ns', h, rfl⟩ := h
      obtain ⟨v1, v2, rfl, hl, r1, r2⟩ := r
      have := u8s_RC h r2
      subst this
      simp only [Rs, R] at r1
      obtain ⟨_, _, rfl, rfl, rfl⟩ := r1
      simp
    · cases h

theorem step_convB {src dst : TypeId} {x : Operand} (ho : o.op = .convert src dst x) (ok : StOk D I g w a ⟨env, h, nx⟩) (hs : pu8s P src = true) (hd : pstr P dst = true) {s : ByteArray} (e : bytesV h (ev env x) = some s) :
    Sound P o a D I g w h nid ⟨True, .p (.str s), h⟩ := by
  obtain ⟨hr, ox⟩ := ev_rep ok x
  have h1 : ∃ e, P.underlying src = some (.slice e) ∧ P.underlying e = some (.int .u8) := by
    unfold pu8s at hs
    split at hs
    · rename_i e he
      split at hs
      · rename_i k hk
        refine ⟨e, ?_, ?_⟩
        · unfold pelem at he; split at he <;> simp_all
        · unfold pint at hk; split at hk <;> simp_all
      · cases hs
    · cases hs
  obtain ⟨et, h1, h2⟩ := h1
  have h3 : P.underlying dst = some .string := by unfold pstr at hd; split at hd <;> simp_all
  refine .same (v := .string s) ok.heap ok.small ?_ (by simp only [RA, R]) (by simp only [AV.on])
  simp only [execOp, ho]
  refine run_value ?_
  unfold bytesV at e
  split at e
  · rename_i hx
    cases e
    rw [hx] at hr
    simp only [RA, R, List.cons.injEq, and_true] at hr
    rw [hr, run_convert_bytes_string w src dst et none 0 0 h1 h2 h3]
    rfl
  · simp only [Option.bind_eq_some_iff] at e
    obtain ⟨⟨sz, ys⟩, hsrc, e⟩ := e
    dsimp only at e
    split at e
    · rename_i hsz
      subst hsz
      simp only [Option.map_eq_some_iff] at e
      obtain ⟨ns, hns, rfl⟩ := e
      obtain ⟨ao, cap, hv, hcap, hne⟩ := asrc_rep ok.heap hsrc hr
      rw [hv, run_convert_bytes_string w src dst et ao _ _ h1 h2 h3]
      cases ao with
      | none =>
        have : ys = [] := by
          cases ys with
          | nil => rfl
          | cons y ys => obtain ⟨_, _, h, _⟩ := hne (by simp); cases h
        subst this
        simp only [u8s, Option.some.injEq] at hns
        subst hns
        rfl
      | some ad =>
        refine run_bytesToString w ad _ cap ns ?_
        by_cases hy : ys = []
        · subst hy
          simp only [u8s, Option.some.injEq] at hns
          subst hns
          have := run_loadCells_list (P := P) w ad [] (by intro j v hj; simp at hj)
          simpa using this
        · obtain ⟨ad', vals, e1, e2, e3, e4⟩ := hne hy
          cases e1
          have := u8s_RC hns e2
          subst this
          have hl : ys.length = (ns.map (Value.int .u8)).length := by omega
          rw [hl]
          exact run_loadCells_list (P := P) w ad _ e3.1
    · cases e
end
end Go.Abs

namespace Go.Abs
open Go Go.RowKit

section
variable {P : Program} {Z : Zeros} {wr : Bool} {D : Nat → Nat → Prop} {I : Nat → Prop} {g : Gh} {w : World} {h : Heap} {a : Act} {o : Oper} {nid nx : Nat} {env : List (Nat × AV)}

theorem toList1 {α : Type} {as : Array α} {x : α} (e : as.toList = [x]) : as = #[x] := Array.ext' (by simpa using e)
theorem toList2 {α : Type} {as : Array α} {x y : α} (e : as.toList = [x, y]) : as = #[x, y] := Array.ext' (by simpa using e)
theorem toListC {α : Type} {as : Array α} {x : α} {r : List α} (e : as.toList = x :: r) : as = (x :: r).toArray := Array.ext' (by simpa using e)

theorem astep_sound {r : Res} (hz : ZOk P Z) (e : astep P Z wr env h nid o = some r) (hvc : r.vc) (ok : StOk D I g w a ⟨env, h, nx⟩) (hn : ∀ m, ¬ D nid m) : Sound P o a D I g w h nid r := by
  unfold astep at e
  split at e
  · rename_i x ho; cases e; exact step_move (.inl ho) ok
  · rename_i x ho; cases e; exact step_move (.inr ho) ok
  · rename_i c x y ho
    split at e
    · rename_i t hc; cases e; exact step_pick ho ok hc
    · cases e
  · rename_i t ho
    split at e
    · cases e
    · rename_i hne; cases e; exact step_alloc ho hz ok hn (by simpa using hne)
  · rename_i t x ho
    split at e
    · rename_i hb; cases e; exact step_box ho ok hn hb
    · cases e
  · rename_i t x ho
    simp only [Option.map_eq_some_iff] at e
    obtain ⟨v, e, rfl⟩ := e
    exact step_load ho ok e
  · rename_i t x y ho
    simp only [Option.map_eq_some_iff] at e
    obtain ⟨v, e, rfl⟩ := e
    exact step_store ho ok e
  · rename_i x ho
    split at e
    · rename_i id off hx; cases e; rw [← hx]; exact step_nilCheck ho ok (.inl ⟨_, _, hx⟩)
    · rename_i id n sz i off hx; cases e; rw [← hx]; exact step_nilCheck ho ok (.inr (.inl ⟨_, _, _, _, _, hx⟩))
    · rename_i id off i hx; cases e; rw [← hx]; exact step_nilCheck ho ok (.inr (.inr (.inl ⟨_, _, _, hx⟩)))
    · rename_i cells hx; cases e; rw [← hx]; exact step_nilCheck ho ok (.inr (.inr (.inr (.inl ⟨_, hx⟩))))
    · rename_i f c d hx; cases e; rw [← hx]; exact step_nilCheck ho ok (.inr (.inr (.inr (.inr ⟨_, _, _, hx⟩))))
    · cases e
  · rename_i op t x y t' ho
    simp only [Option.map_eq_some_iff] at e
    obtain ⟨q, e, rfl⟩ := e
    exact step_binOp ho ok e hvc
  · rename_i op t x ho
    simp only [Option.map_eq_some_iff] at e
    obtain ⟨q, e, rfl⟩ := e
    exact step_unOp ho ok e
  · rename_i src dst x ho
    split at e
    · rename_i k n hx
      split at e
      · rename_i k2 k' hs hd; cases e; exact step_conv ho ok hx hs hd
      · cases e
    · split at e
      · rename_i hc
        simp only [Bool.and_eq_true] at hc
        simp only [Option.map_eq_some_iff] at e
        obtain ⟨s, e, rfl⟩ := e
        exact step_convB ho ok hc.1 hc.2 e
      · cases e
  · rename_i f first cap ho; cases e; exact step_makeFunc ho ok
  · rename_i s x f ho
    simp only [Option.bind_eq_some_iff] at e
    obtain ⟨⟨fo, ft⟩, hf, e⟩ := e
    dsimp only at e
    split at e
    · cases e
    · rename_i hp
      simp only [not_or] at hp
      cases hp1 : psz P ft with
      | none => exact absurd hp1 hp.1
      | some n => exact step_fieldAddr ho ok hf hp1 (fun h0 => hp.2 (by rw [hp1, h0])) e
  · rename_i s x f ho
    simp only [Option.bind_eq_some_iff] at e
    obtain ⟨⟨fo, ft⟩, hf, e⟩ := e
    dsimp only at e
    split at e
    · rename_i cells hx
      simp only [Option.bind_eq_some_iff, Option.map_eq_some_iff] at e
      obtain ⟨⟨agg, n⟩, hp, v, e, rfl⟩ := e
      exact step_field ho ok hf hx hp (by simpa only [Option.bind_eq_some_iff] using e)
    · cases e
  · rename_i t x ix ho; exact step_indexAddr ho ok e hvc
  · rename_i t x ix ho; exact step_index ho ok e hvc
  · rename_i t x lo hi ho; exact step_slice ho ok e hvc
  · rename_i t parts ho
    split at e
    · cases e
    · rename_i hne
      simp only [Option.bind_eq_some_iff, Option.map_eq_some_iff] at e
      obtain ⟨pl, hp, cs, e, rfl⟩ := e
      exact step_build ho hz ok (by simpa using hne) hp e
  · rename_i t len parts ho
    simp only [Option.bind_eq_some_iff] at e
    obtain ⟨et, ht, sz, hs, e⟩ := e
    split at e
    · rename_i hc
      obtain ⟨h1, h2, h3, h4⟩ := hc
      simp only [Option.map_eq_some_iff] at e
      obtain ⟨xs, e, rfl⟩ := e
      exact step_buildSlice ho hz ok hn ht hs h1 h2 h3 h4 e
    · cases e
  · rename_i t x y ho
    simp only [Option.bind_eq_some_iff] at e
    obtain ⟨et, ht, e⟩ := e
    split at e
    · rename_i k n k' m sz hx hy hs
      split at e
      · cases e
      · rename_i hc
        simp only [Bool.or_eq_true, not_or, Bool.not_eq_true, beq_eq_false_iff_ne] at hc
        cases e
        obtain ⟨h0, h1, h2, h3⟩ : 0 ≤ n ∧ n ≤ m ∧ m * pby P et ≤ 140737488355328 ∧ m ≤ 9223372036854775807 := hvc
        exact step_makeSlice ho hz ok hn ht hs hc.2 hc.1 hx hy h0 h1 h2 h3
    · cases e
  · rename_i x i ho
    split at e
    · rename_i vs hx
      simp only [Option.map_eq_some_iff] at e
      obtain ⟨v, e, rfl⟩ := e
      exact step_extract ho ok hx e
    · cases e
  · rename_i args argTypes ho
    split at e
    · rename_i x t h1 h2
      simp only [Option.map_eq_some_iff] at e
      obtain ⟨v, e, rfl⟩ := e
      obtain ⟨hx, ox⟩ := ev_rep ok x
      obtain ⟨z, hr, hv, hon⟩ := alen_sound (P := P) (D := D) (ty := o.type) e hx
      refine .same ok.heap ok.small ?_ hv hon
      simp [execOp, ho, toList1 h1, toList1 h2, resolve, invoke, builtin, hr]
    · cases e
  · rename_i args argTypes ho
    split at e
    · rename_i x y t t' h1 h2
      split at e
      · rename_i ht
        subst ht
        exact step_append (by rw [ho, toList2 h1, toList2 h2]) hz ok hn e hvc
      · cases e
    · cases e
  · rename_i args argTypes ho
    split at e
    · rename_i x r h1
      simp only [Option.map_eq_some_iff] at e
      obtain ⟨v, e, rfl⟩ := e
      obtain ⟨hx, ox⟩ := ev_rep ok x
      obtain ⟨hrs, _⟩ := evs_rep ok r
      obtain ⟨z, hr, hv, hon⟩ := amin_sound (P := P) (D := D) e hx hrs
      refine .same ok.heap ok.small ?_ hv (hon ox)
      simp [execOp, ho, toListC h1, resolve, invoke, builtin, Builtin.min_, hr]
    · cases e
  · rename_i args argTypes ho
    split at e
    · rename_i x r h1
      simp only [Option.map_eq_some_iff] at e
      obtain ⟨v, e, rfl⟩ := e
      obtain ⟨hx, ox⟩ := ev_rep ok x
      obtain ⟨hrs, _⟩ := evs_rep ok r
      obtain ⟨z, hr, hv, hon⟩ := amax_sound (P := P) (D := D) e hx hrs
      refine .same ok.heap ok.small ?_ hv (hon ox)
      simp [execOp, ho, toListC h1, resolve, invoke, builtin, Builtin.max_, hr]
    · cases e
  · cases e
end
end Go.Abs
