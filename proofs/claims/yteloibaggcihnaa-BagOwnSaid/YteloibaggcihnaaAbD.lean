/-
  The abstract machine: functions walked in place, rounds, drawn orders, stepping.
-/
import Derived.Test.YteloibaggcihnaaAbC
import Derived.Scope
import Derived.OrdersIn
set_option linter.all false
set_option linter.unusedVariables false
set_option linter.unusedSimpArgs false

namespace Go.Abs
open Go Go.RowKit

section
variable {P : Program} {Z : Zeros} {wr rd : Bool} {N : Nat} {D : Nat → Nat → Prop} {I : Nat → Prop} {g : Gh} {w : World} {h : Heap} {a : Act}

def argEnvA : Nat → List AV → List (Nat × AV)
  | _, [] => []
  | k, a :: as => (k, a) :: argEnvA (k + 1) as

/-- the ghost with a frame that waits -/
def Gh.wait (g : Gh) (i : Nat) (t : Array Value) : Gh := { g with frm := fun j => if j = i then (t, 0) else g.frm j }

theorem RA.cg {g g' : Gh} (hb : g'.blk = g.blk) (hh : g'.hdr = g.hdr) {c : AV} {vs : List Value} (r : RA I g w c vs) : RA I g' w c vs :=
  RA.mono (D := fun _ _ => True) (fun _ _ => rfl) (fun _ h => h) (fun _ _ _ => ⟨by rw [hb], by rw [hh]⟩) c vs ((on_all _ (fun _ _ => trivial)).1 c) r
theorem RAs.cg {g g' : Gh} (hb : g'.blk = g.blk) (hh : g'.hdr = g.hdr) {c : List AV} {vs : List Value} (r : RAs I g w c vs) : RAs I g' w c vs :=
  RAs.mono (D := fun _ _ => True) (fun _ _ => rfl) (fun _ h => h) (fun _ _ _ => ⟨by rw [hb], by rw [hh]⟩) c vs (ons_all _ (fun _ _ => trivial) c) r
theorem RAEs.cg {g g' : Gh} (hb : g'.blk = g.blk) (hh : g'.hdr = g.hdr) {c : List AV} {vs : List Value} (r : RAEs I g w c vs) : RAEs I g' w c vs :=
  RAEs.mono (D := fun _ _ => True) (fun _ _ => rfl) (fun _ h => h) (fun _ _ _ => ⟨by rw [hb], by rw [hh]⟩) c vs (ons_all _ (fun _ _ => trivial) c) r

theorem ownB_cg {g g' : Gh} (hb : g'.blk = g.blk) (hh : g'.hdr = g.hdr) (id : Nat) (x : ABlk) : ownB g' id x = ownB g id x := by
  cases x <;> simp only [ownB, hb, hh]

theorem Owned_cg {g g' : Gh} (hb : g'.blk = g.blk) (hh : g'.hdr = g.hdr) (h : Heap) : Owned g' h = Owned g h := by
  funext b
  simp only [Owned, ownB_cg hb hh]

theorem BOk.cg {g g' : Gh} (hb : g'.blk = g.blk) (hh : g'.hdr = g.hdr) (h0 : g'.b0 = g.b0) {id : Nat} (hf : g'.frm id = g.frm id) {x : ABlk} (hx : BOk I g w id x) : BOk I g' w id x := by
  cases x with
  | var cs =>
    obtain ⟨C, T, h1, h2, h3⟩ := hx
    exact ⟨C, T, by rw [hb]; exact h1, h2.cg hb hh, by rw [hb]; exact h3⟩
  | list e sz xs f fl =>
    obtain ⟨vals, h1, h2, h3, h4⟩ := hx
    exact ⟨vals, by rw [hh]; exact h1, RC.mono (fun _ _ => rfl) (fun b hb' => ⟨hb'.1, by rw [h0]; exact hb'.2⟩) h2, by rw [hh, h0]; exact h3, h4⟩
  | loop st pe n0 env ps x y =>
    obtain ⟨h1, h2, h3, h4⟩ := hx
    exact ⟨by rw [hb, hf]; exact h1, by rw [hf, hb]; exact h2, fun t => by rw [hf]; exact (h3 t).cg hb hh, by rw [hb]; exact h4⟩
  | frame env => exact fun t => by rw [hf]; exact (hx t).cg hb hh
  | rvar cells =>
    obtain ⟨us, h1, h2, h3⟩ := hx
    exact ⟨us, by rw [hb]; exact h1, h2, by rw [hb]; exact h3⟩

theorem HOk.cg {g g' : Gh} (ok : HOk D I g w h) (hb : g'.blk = g.blk) (hh : g'.hdr = g.hdr) (h0 : g'.b0 = g.b0) (hf : ∀ id x, hlook h id = some x → g'.frm id = g.frm id) : HOk D I g' w h :=
  ⟨fun id x hx => (ok.blk id x hx).cg hb hh h0 (hf id x hx), fun id id' x x' k hne hx hx' hk => by rw [ownB_cg hb hh] at hk ⊢; exact ok.sep id id' x x' k hne hx hx' hk, ok.dom, by rw [h0]; exact ok.new⟩

theorem hlook_hdel : ∀ (h : Heap) (id j : Nat), hlook (hdel h id) j = if id = j then none else hlook h j
  | [], id, j => by simp [hdel, hlook]
  | (i, b) :: r, id, j => by
    simp only [hdel]
    by_cases e : i = id
    · subst e
      rw [if_pos rfl, hlook_hdel r i j]
      by_cases e2 : i = j <;> simp [hlook, e2]
    · rw [if_neg e]
      simp only [hlook, hlook_hdel r id j]
      by_cases e2 : i = j
      · subst e2; simp [Ne.symm e]
      · simp [e2]

theorem HOk.del (ok : HOk D I g w h) (id : Nat) : HOk D I g w (hdel h id) := by
  have hsub : ∀ j x, hlook (hdel h id) j = some x → hlook h j = some x := fun j x hx => by
    rw [hlook_hdel] at hx
    split at hx
    · cases hx
    · exact hx
  exact ⟨fun j x hx => ok.blk j x (hsub j x hx), fun i j x y k hne hx hy => ok.sep i j x y k hne (hsub i x hx) (hsub j y hy), fun j x hx => ok.dom j x (hsub j x hx), ok.new⟩

theorem Owned.del {b id : Nat} (ho : Owned g (hdel h id) b) : Owned g h b := by
  obtain ⟨j, x, hx, hop, hb⟩ := ho
  rw [hlook_hdel] at hx
  split at hx
  · cases hx
  · exact ⟨j, x, hx, hop, hb⟩

/-- less is on its way where a list is let go; a block that is no list -/
theorem Dn_del {e e' : List (Nat × AV)} {h : Heap} {nx id : Nat} : ∀ i m, Dn ⟨e, h, nx⟩ i m → Dn ⟨e', hdel h id, nx⟩ i m := by
  rintro i m ⟨h1, h2⟩
  refine ⟨h1, fun e sz xs f fl hx => h2 e sz xs f fl ?_⟩
  dsimp only at hx
  rw [hlook_hdel] at hx
  split at hx
  · cases hx
  · exact hx

theorem HOk.toDn {e : List (Nat × AV)} {h : Heap} {nx : Nat} (ok : HOk D I g w h) (hd : ∀ i m, D i m → Dn ⟨e, h, nx⟩ i m) : HOk (Dn ⟨e, h, nx⟩) I g w h :=
  ok.mono hd fun _ _ _ _ _ _ _ hx hd => hd.2 _ _ _ _ _ hx

theorem argEnvA_look {as : List AV} {us : List Value} : ∀ {k : Nat}, RAEs I g w as us → AV.ons D as → ∀ t, (look (argEnvA k as) t = .undef) ∨ ∃ u, k ≤ t ∧ us[t - k]? = some u ∧ RA I g w (look (argEnvA k as) t) [u] ∧ (look (argEnvA k as) t).on D := by
  induction as generalizing us with
  | nil => intro k _ _ t; exact .inl rfl
  | cons c cs ih =>
    intro k h ho t
    simp only [RAEs, AV.ons] at h ho
    obtain ⟨v, v2, rfl, h1, h2⟩ := h
    simp only [argEnvA, look]
    by_cases e : k = t
    · subst e
      rw [if_pos rfl]
      exact .inr ⟨v, Nat.le_refl _, by simp, h1, ho.1⟩
    · rw [if_neg e]
      rcases ih h2 ho.2 (k := k + 1) t with h | ⟨u, hle, hu, hr, hon⟩
      · exact .inl h
      · refine .inr ⟨u, by omega, ?_, hr, hon⟩
        rw [show t - k = (t - (k + 1)) + 1 from by omega]
        simpa using hu

/-- the state of memory with a frame that waits -/
theorem wait_heap {s : St} (ok : StOk (Dn s) I g w a s) (env1 : List (Nat × AV)) : HOk (Dn ⟨env1, (s.nx, .frame s.env) :: s.heap, s.nx + 1⟩) I (g.wait s.nx a.tmps) w ((s.nx, .frame s.env) :: s.heap) := by
  have hlt : ∀ id x, hlook s.heap id = some x → id ≠ s.nx := by
    intro id x hx e
    have := ok.heap.dom id x hx
    subst e
    cases x with
    | var cs => exact Dn_fresh s _ this.1
    | list e sz xs f fl => exact Dn_fresh s _ this.1
    | loop st pe n0 env ps x y => exact Dn_fresh s _ this.1
    | frame env => exact Dn_fresh s _ this.1
    | rvar cells => exact Dn_fresh s _ this
  have hdn : ∀ i m, Dn s i m → Dn ⟨env1, (s.nx, .frame s.env) :: s.heap, s.nx + 1⟩ i m := by
    rintro i m ⟨h1, h2⟩
    refine ⟨Nat.lt_succ_of_lt h1, fun e sz xs f fl hx => h2 e sz xs f fl ?_⟩
    simp only [hlook] at hx
    split at hx
    · cases hx
    · exact hx
  refine ⟨fun id x hx => ?_, fun id id' x x' k hne hx hx' hk => ?_, fun id x hx => ?_, ok.heap.new⟩
  · simp only [hlook] at hx
    split at hx
    · rename_i e; subst e; cases hx
      intro t
      simp only [Gh.wait, if_true]
      exact (ok.env t).cg (by rfl) (by rfl)
    · rename_i e
      exact (ok.heap.blk id x hx).cg (by rfl) (by rfl) (by rfl) (by simp only [Gh.wait]; rw [if_neg (Ne.symm e)])
  · rw [ownB_cg (g := g) (g' := g.wait s.nx a.tmps) rfl rfl] at hk ⊢
    simp only [hlook] at hx hx'
    split at hx
    · cases hx; simp [ownB] at hk
    · split at hx'
      · cases hx'; simp [ownB]
      · exact ok.heap.sep id id' x x' k hne hx hx' hk
  · simp only [hlook] at hx
    split at hx
    · rename_i e; subst e; cases hx
      exact ⟨⟨Nat.lt_succ_self _, fun e sz xs f fl hx => by simp [hlook] at hx⟩, fun t => AV.on_mono hdn _ (ok.on t)⟩
    · have := ok.heap.dom id x hx
      cases x with
      | var cs => exact ⟨hdn _ _ this.1, AV.ons_mono hdn _ this.2⟩
      | list e sz xs f fl =>
        refine ⟨hdn _ _ this.1, fun m hm => ?_⟩
        refine hm.2 e sz xs f fl ?_
        simp only [hlook]
        rw [if_neg (fun q => hlt id _ hx q.symm)]
        exact hx
      | loop st pe n0 env ps x y => exact ⟨hdn _ _ this.1, fun t => AV.on_mono hdn _ (this.2 t)⟩
      | frame env => exact ⟨hdn _ _ this.1, fun t => AV.on_mono hdn _ (this.2 t)⟩
      | rvar cells => exact hdn _ _ this

theorem wait_owned {s : St} {tm : Array Value} (b : Nat) : Owned (g.wait s.nx tm) ((s.nx, .frame s.env) :: s.heap) b → Owned g s.heap b := by
  rintro ⟨id, x, hx, hop, hb⟩
  simp only [hlook] at hx
  split at hx
  · cases hx; simp [ABlk.opn] at hop
  · exact ⟨id, x, hx, hop, by rwa [ownB_cg (g := g) (g' := g.wait s.nx tm) rfl rfl] at hb⟩

theorem wait_owned' {s : St} {tm : Array Value} (hs : hlook s.heap s.nx = none) (b : Nat) : Owned g s.heap b → Owned (g.wait s.nx tm) ((s.nx, .frame s.env) :: s.heap) b := by
  rintro ⟨id, x, hx, hop, hb⟩
  refine ⟨id, x, ?_, hop, by rwa [ownB_cg (g := g) (g' := g.wait s.nx tm) rfl rfl]⟩
  simp only [hlook]
  rw [if_neg (fun e => by rw [e, hx] at hs; cases hs)]
  exact hx

/-- the frame goes on -/
theorem wait_back {s : St} {s2 : St} {I2 : Nat → Prop} {g2 : Gh} {w2 : World} {a2 : Act} (k2 : g2.frm = (g.wait s.nx a.tmps).frm) (ok2 : StOk (Dn s2) I2 g2 w2 a2 s2) (hfr : hlook s2.heap s.nx = some (.frame s.env)) :
    StOk (Dn ⟨s.env, hdel s2.heap s.nx, s2.nx⟩) I2 { g2 with frm := g.frm } w2 a ⟨s.env, hdel s2.heap s.nx, s2.nx⟩ ∧ (∀ b, Owned { g2 with frm := g.frm } (hdel s2.heap s.nx) b → Owned g2 s2.heap b) := by
  have hb := ok2.heap.blk _ _ hfr
  have hd := ok2.heap.dom _ _ hfr
  refine ⟨⟨fun t => ?_, fun t => ?_, ?_, ok2.small⟩, fun b hb => ?_⟩
  · have := hb t
    rw [k2] at this
    simp only [Gh.wait, if_true] at this
    exact this.cg (by rfl) (by rfl)
  · exact AV.on_mono (Dn_del (e := s2.env)) _ (hd.2 t)
  · have h1 := (ok2.heap.del s.nx).toDn (e := s.env) (nx := s2.nx) (Dn_del (e := s2.env))
    refine h1.cg (by rfl) (by rfl) (by rfl) fun id x hx => ?_
    rw [hlook_hdel] at hx
    split at hx
    · cases hx
    · rename_i e
      rw [k2]
      simp only [Gh.wait]
      rw [if_neg (Ne.symm e)]
  · rw [Owned_cg (g := g2) (g' := { g2 with frm := g.frm }) rfl rfl] at hb
    exact Owned.del hb

/-- A FUNCTION, WALKED WHERE IT IS CALLED -/
theorem AIn.of_AWP {f : FuncId} {fn : Func} {c : Code} (hf : P.funcs[f]? = some fn) (hb : fn.body = some c) (hname : (fn.name == "runtime.NumGoroutine") = false) {args : List AV} {rs : List ResultVar} {N : Nat} (hrs : fn.results.toList = rs) (hN : fn.ntmps = N) (hlen : args.length ≤ N) {s : St} {K : AV → St → Prop}
    (h : AWP P N false c ⟨argEnvA 0 args, (s.nx, .frame s.env) :: s.heap, s.nx + 1⟩ (fun e s2 => (e = .ret ∨ e = .normal) ∧ ∃ v, ares P rs s2 = some v ∧ hlook s2.heap s.nx = some (.frame s.env) ∧ K v ⟨s.env, hdel s2.heap s.nx, s2.nx⟩)) : AIn P f args s K := by
  refine ⟨by unfold pfun; rw [hf]; simp [hb, hname], fun I g w a vals ok hR hon => ?_⟩
  have hvl : vals.size = args.length := by have := RAEs_length hR; simpa using this
  have hnone : hlook s.heap s.nx = none := by
    cases hq : hlook s.heap s.nx with
    | none => rfl
    | some x =>
      exfalso
      have := ok.heap.dom _ x hq
      cases x with
      | var cs => exact Dn_fresh s _ this.1
      | list e sz xs f fl => exact Dn_fresh s _ this.1
      | loop st pe n0 env ps x y => exact Dn_fresh s _ this.1
      | frame env => exact Dn_fresh s _ this.1
      | rvar cells => exact Dn_fresh s _ this
  have hh := wait_heap ok (argEnvA 0 args)
  have hon' : AV.ons (Dn ⟨argEnvA 0 args, (s.nx, .frame s.env) :: s.heap, s.nx + 1⟩) args := AV.ons_mono (by
    rintro i m ⟨h1, h2⟩
    refine ⟨Nat.lt_succ_of_lt h1, fun e sz xs f fl hx => h2 e sz xs f fl ?_⟩
    simp only [hlook] at hx
    split at hx
    · cases hx
    · exact hx) _ hon
  have hR' : RAEs I (g.wait s.nx a.tmps) w args vals.toList := hR.cg (by rfl) (by rfl)
  have hcode := calls_core (I := I) (g := g.wait s.nx a.tmps) (w := w) (vals := vals) hf hb hrs hN h (by omega) ?_
  · refine hcode.mono ?_
    rintro e w' ⟨u, v, s2, I2, g2, a2, rfl, ⟨hfr, hk⟩, ok2, hrv, hov, fr, kp⟩
    obtain ⟨okb, hob⟩ := wait_back kp.1 ok2 hfr
    refine ⟨u, v, _, I2, { g2 with frm := g.frm }, rfl, hk, okb, hrv.cg (by rfl) (by rfl), AV.on_mono (Dn_del (e := s2.env)) _ hov, ?_, ⟨rfl, kp.2⟩⟩
    refine ⟨fr.below, fun b hb ho => fr.same b hb fun h => ho (wait_owned b h), fun b hb => (fr.own b (hob b hb)).imp (wait_owned b) id, fun b hb => ?_, fr.isub, fr.cf⟩
    rcases fr.inew b hb with h | h | h
    · exact .inl h
    · exact .inr (.inl (wait_owned b h))
    · exact .inr (.inr h)
  · refine ⟨fun t => ?_, fun t => ?_, hh, ok.small⟩
    · rcases argEnvA_look hR' hon' t with h1 | ⟨u, _, hu, hr, _⟩
      · rw [h1]; simp only [RA]; exact ⟨_, rfl⟩
      · have : (vals ++ Array.replicate (fn.ntmps - vals.size) undef).getD t undef = u := by
          have hlt : t < vals.size := by
            have := (List.getElem?_eq_some_iff.1 hu).1
            simpa using this
          rw [Array.getD_eq_getD_getElem?, Array.getElem?_append_left hlt]
          have : vals[t]? = some u := by simpa using hu
          rw [this]; rfl
        rw [this]; exact hr
    · rcases argEnvA_look hR' hon' t with h1 | ⟨u, _, _, _, hon⟩
      · rw [h1]; simp only [AV.on]
      · exact hon

end
end Go.Abs

namespace Go.Abs
open Go Go.RowKit

section
variable {P : Program} {Z : Zeros} {wr rd : Bool} {N : Nat} {D : Nat → Nat → Prop} {I : Nat → Prop} {g : Gh} {w : World} {h : Heap} {a : Act}

theorem zip_rep : ∀ (ps : List Nat) {as : List AV} {vs : List Value} {env : List (Nat × AV)} {tm : Array Value}, RAEs I g w as vs → ps.length = as.length → (∀ p ∈ ps, p < tm.size) → (∀ t, RA I g w (look env t) [tm.getD t undef]) →
    (∀ t, RA I g w (look ((ps.zip as).reverse ++ env) t) [((ps.zip vs).foldl (fun tm (q : Nat × Value) => tm.setIfInBounds q.1 q.2) tm).getD t undef]) ∧ ((ps.zip vs).foldl (fun tm (q : Nat × Value) => tm.setIfInBounds q.1 q.2) tm).size = tm.size
  | [], _, _, _, _, _, _, _, h => by simpa using h
  | p :: ps, [], _, _, _, _, hl, _, _ => by simp at hl
  | p :: ps, a :: as, vs, env, tm, hr, hl, hp, h => by
    simp only [RAEs] at hr
    obtain ⟨v, v2, rfl, h1, h2⟩ := hr
    have := zip_rep ps (env := (p, a) :: env) (tm := tm.setIfInBounds p v) h2 (by simpa using hl) (fun q hq => by simpa using hp q (by simp [hq])) (fun t => by
      simp only [look]
      by_cases e : p = t
      · subst e
        rw [if_pos rfl, Array.getD_eq_getD_getElem?, Array.getElem?_setIfInBounds_self_of_lt (hp p (by simp))]
        exact h1
      · rw [if_neg e, Array.getD_eq_getD_getElem?, Array.getElem?_setIfInBounds_ne e, ← Array.getD_eq_getD_getElem?]
        exact h t)
    simpa using this

theorem zip_on : ∀ (ps : List Nat) {as : List AV} {env : List (Nat × AV)}, AV.ons D as → (∀ t, (look env t).on D) → ∀ t, (look ((ps.zip as).reverse ++ env) t).on D
  | [], _, _, _, h => by simpa using h
  | _ :: _, [], _, _, h => by simpa using h
  | p :: ps, a :: as, env, ho, h => by
    simp only [AV.ons] at ho
    have := zip_on ps (env := (p, a) :: env) ho.2 (fun t => by
      simp only [look]
      split
      · exact ho.1
      · exact h t)
    simpa using this

/-- the jump by which a round is left -/
def jumpOf : Exit → Option (Option Code)
  | .normal => some none
  | .ret => some (some .ret)
  | .exit id => some (some (.exit id))
  | .goto t => some (some (.goto t))
  | _ => none

theorem roundPost_of {l : Nat} {R : Ending → World → Prop} {e : Exit} {j : Option Code} (hj : jumpOf e = some j) (h : ∃ v w', (Instr.endRound l j).run P w = .ok v w' ∧ R (.returned v) w') : roundPost P l R e a w := by
  cases e <;> simp only [jumpOf, Option.some.injEq, reduceCtorEq] at hj <;> subst hj <;> exact h

theorem CF.putObj {w : World} {b : Nat} {o : Obj} (h : ∀ C T fr, o ≠ .cells C T fr) : CF w (w.putObj b o) := CF.of fun b' C T fr hb _ => by
  by_cases e : b' = b
  · subst e
    exfalso
    by_cases hlt : b' < w.heap.size
    · rw [World.putObj_heap_same hlt] at hb
      exact h C T fr (by cases hb; rfl)
    · have := (Array.getElem?_eq_some_iff.1 hb).1
      simp at this
      omega
  · exact World.putObj_heap_other e

/-- a loop's record turned -/
theorem turn_loop {id : Nat} {st st' : LoopState} {pe pe' : Option Code} {n : Nat} {env : List (Nat × AV)} {ps : Array Nat} {x y : Code} (ok : HOk D I g w h) (small : ∀ b, I b → b < w.heap.size) (hl : hlook h id = some (.loop st pe n env ps x y)) :
    ∃ fn d, w.heap[g.blk id]? = some (.loop { state := st, pending := pe, fn, tmps := (g.frm id).1, params := ps, assign := x, body := y, defers := d }) ∧
      Tr D I g w h D I g (w.putObj (g.blk id) (.loop { state := st', pending := pe', fn, tmps := (g.frm id).1, params := ps, assign := x, body := y, defers := d })) (hset h id (.loop st' pe' n env ps x y)) := by
  obtain ⟨⟨fn, d, hC⟩, hsz, hrep, hnI⟩ := ok.blk id _ hl
  refine ⟨fn, d, hC, ?_⟩
  have hlt : g.blk id < w.heap.size := (Array.getElem?_eq_some_iff.1 hC).1
  have so : SameOn I w (w.putObj (g.blk id) (.loop { state := st', pending := pe', fn, tmps := (g.frm id).1, params := ps, assign := x, body := y, defers := d })) := fun b hb => World.putObj_heap_other (fun e => hnI (by rw [← e]; exact hb))
  refine Tr.turn ok small hl rfl ⟨rfl, rfl, rfl, by simp, fun k hk => absurd hk (by omega)⟩ (CF.putObj (by intro C T fr h; cases h)) (fun b _ hne => World.putObj_heap_other (fun e => hne (by simp only [ownB, e]))) (Gh.same.refl _ _) (Gh.kp.refl _) (fun _ _ h => h) ?_ (by have := ok.dom id _ hl; exact ⟨this.1, this.2⟩) (fun _ _ _ h => h) (fun b hb => .inl hb)
  refine ⟨⟨fn, d, World.putObj_heap_same hlt⟩, hsz, fun t => ?_, hnI⟩
  exact RA.mono so (fun _ h => h) (Gh.same.refl _ _) _ _ ((ok.dom id _ hl).2 t) (hrep t)

theorem Dn_loop {e e' : List (Nat × AV)} {nx id : Nat} {st st' : LoopState} {pe pe' : Option Code} {n : Nat} {env : List (Nat × AV)} {ps : Array Nat} {x y : Code} (hl : hlook h id = some (.loop st pe n env ps x y)) :
    ∀ i m, Dn ⟨e, h, nx⟩ i m → Dn ⟨e', hset h id (.loop st' pe' n env ps x y), nx⟩ i m := by
  rintro i m ⟨h1, h2⟩
  refine ⟨h1, fun e sz xs f fl hx => h2 e sz xs f fl ?_⟩
  dsimp only at hx
  rw [hlook_hset hl] at hx
  split at hx
  · cases hx
  · exact hx

theorem StOk.loop {s : St} {id : Nat} {st st' : LoopState} {pe pe' : Option Code} {n : Nat} {env : List (Nat × AV)} {ps : Array Nat} {x y : Code} (hl : hlook s.heap id = some (.loop st pe n env ps x y))
    (ok : StOk (Dn s) I g w a { s with heap := hset s.heap id (.loop st' pe' n env ps x y) }) : StOk (Dn { s with heap := hset s.heap id (.loop st' pe' n env ps x y) }) I g w a { s with heap := hset s.heap id (.loop st' pe' n env ps x y) } :=
  ok.mono (Dn_loop (e := s.env) hl) fun _ _ _ _ _ _ _ hx hd => hd.2 _ _ _ _ _ hx

/-- A ROUND, OUT OF ITS BODY's WALK -/
theorem ARd.of_AWP {id : Nat} {args : List AV} {s : St} {K : AV → St → Prop} {pe : Option Code} {n : Nat} {env : List (Nat × AV)} {ps : Array Nat} {assign body : Code} (hl : hlook s.heap id = some (.loop .ready pe n env ps assign body)) (hlen : args.length = ps.size) (hps : ps.toList.all (fun p => decide (p < n)) = true)
    (h : AWP P n true assign ⟨(ps.toList.zip args).reverse ++ env, (s.nx, .frame s.env) :: s.heap, s.nx + 1⟩ (fun e s1 => e = .normal ∧ hlook s1.heap id = some (.loop .ready pe n env ps assign body) ∧
      AWP P n true body { s1 with heap := hset s1.heap id (.loop .busy pe n env ps assign body) } (fun e s2 => ∃ j, jumpOf e = some j ∧ hlook s2.heap id = some (.loop .busy pe n env ps assign body) ∧ hlook s2.heap s.nx = some (.frame s.env) ∧
        K (.p (.bool j.isNone)) ⟨s.env, hdel (hset s2.heap id (.loop (if j.isNone then .ready else .done) j n env ps assign body)) s.nx, s2.nx⟩))) : ARd P id args s K := by
  intro r m I g w a vals ok hR hon
  obtain ⟨⟨fn, d, hC⟩, hsz, hrep, hnI⟩ := ok.heap.blk id _ hl
  have hdom := ok.heap.dom id _ hl
  have hidlt : id < s.nx := hdom.1.1
  have hne : s.nx ≠ id := fun e => by omega
  have hvl : vals.size = args.length := by have := RAEs_length hR; simpa using this
  have hy := run_yield (P := P) (args := vals) hC (by simp; omega)
  refine ⟨_, _, _, _, _, hy, roundIn_of_wpIn (F := wideR r) trivial ?_⟩
  obtain ⟨tm, htm⟩ : ∃ tm, tm = (ps.zip vals).foldl (fun tmps (x : Nat × Value) => match x with | (t, a) => tmps.setIfInBounds t a) (g.frm id).1 := ⟨_, rfl⟩
  rw [← htm]
  have htm' : tm = (ps.toList.zip vals.toList).foldl (fun tm (q : Nat × Value) => tm.setIfInBounds q.1 q.2) (g.frm id).1 := by
    rw [htm, ← Array.foldl_toList, Array.toList_zip]
  have hps' : ∀ p ∈ ps.toList, p < (g.frm id).1.size := fun p hp => by
    rw [hsz.1]
    have := List.all_eq_true.1 hps p hp
    simpa using this
  obtain ⟨hz1, hz2⟩ := zip_rep ps.toList (as := args) hR (by simpa using hlen.symm) hps' hrep
  rw [← htm'] at hz1 hz2
  have hdn : ∀ i k, Dn s i k → Dn ⟨(ps.toList.zip args).reverse ++ env, (s.nx, .frame s.env) :: s.heap, s.nx + 1⟩ i k := by
    rintro i m ⟨h1, h2⟩
    refine ⟨Nat.lt_succ_of_lt h1, fun e sz xs f fl hx => h2 e sz xs f fl ?_⟩
    simp only [hlook] at hx
    split at hx
    · cases hx
    · exact hx
  have ok1 : StOk (Dn ⟨(ps.toList.zip args).reverse ++ env, (s.nx, .frame s.env) :: s.heap, s.nx + 1⟩) I (g.wait s.nx a.tmps) w { tmps := tm, defers := [] } ⟨(ps.toList.zip args).reverse ++ env, (s.nx, .frame s.env) :: s.heap, s.nx + 1⟩ :=
    ⟨fun t => (hz1 t).cg (by rfl) (by rfl), fun t => AV.on_mono hdn _ (zip_on _ hon hdom.2 t), wait_heap ok _, ok.small⟩
  have hblk : ∀ {s1 : St} {I1 : Nat → Prop} {g1 : Gh} {w1 : World} {a1 : Act} {st : LoopState} {pe : Option Code}, StOk (Dn s1) I1 g1 w1 a1 s1 → g1.frm = (g.wait s.nx a.tmps).frm → hlook s1.heap id = some (.loop st pe n env ps assign body) → g1.blk id = g.blk id := by
    intro s1 I1 g1 w1 a1 st pe ok' hf hl'
    obtain ⟨_, hsz', _⟩ := ok'.heap.blk id _ hl'
    rw [hsz'.2, hf, hsz.2]
    simp only [Gh.wait]
    rw [if_neg (Ne.symm hne)]
  refine wpIn_mono (h (some (g.blk id)) m I (g.wait s.nx a.tmps) w _ (fun e => by cases e) (by rw [hz2]; exact hsz.1) (DlOk.nil _ _ _) ok1) ?_
  rintro e a1 w1 ⟨s1, I1, g1, ⟨rfl, hl1, hbody⟩, hN1, hd1, ok1', fr1, kp1⟩
  have hb1 := hblk ok1' kp1.1 hl1
  obtain ⟨fn1, d1, hC1, t1⟩ := turn_loop (st' := .busy) (pe' := pe) ok1'.heap ok1'.small hl1
  have hbr := run_beginRound (P := P) hC1 rfl
  rw [hb1] at hbr
  refine ⟨_, hbr, ?_⟩
  rw [hb1] at t1
  have ok2 := ok1'.called t1
  refine wpIn_mono (hbody (some (g.blk id)) m I1 g1 _ a1 (fun e => by cases e) hN1 (hd1.1.fr t1.fr) (StOk.loop hl1 ok2)) ?_
  rintro e a2 w2 ⟨s2, I2, g2, ⟨j, hj, hl2, hf2, hk⟩, hN2, hd2, ok2', fr2, kp2⟩
  refine roundPost_of hj ?_
  have kp02 := kp1.trans kp2
  have hb2 := hblk ok2' kp02.1 hl2
  obtain ⟨fn2, d2, hC2, t2⟩ := turn_loop (st' := if j.isNone then .ready else .done) (pe' := j) ok2'.heap ok2'.small hl2
  have her := run_endRound (P := P) j hC2
  rw [hb2] at her t2
  refine ⟨_, _, her, ?_⟩
  have ok3 := StOk.loop hl2 (ok2'.called t2)
  have hf3 : hlook (hset s2.heap id (.loop (if j.isNone then .ready else .done) j n env ps assign body)) s.nx = some (.frame s.env) := by
    rw [hlook_hset hl2, if_neg (Ne.symm hne)]; exact hf2
  obtain ⟨okb, hob⟩ := wait_back (a := a) (s := s) kp02.1 ok3 hf3
  have frA : Fr I (Owned (g.wait s.nx a.tmps) ((s.nx, .frame s.env) :: s.heap)) w I2 _ _ := (fr1.trans t1.fr).trans (fr2.trans t2.fr)
  refine ⟨_, .p (.bool j.isNone), _, I2, { g2 with frm := g.frm }, rfl, hk, okb, by simp only [RA, R], by simp only [AV.on], ?_, ⟨rfl, kp02.2⟩⟩
  refine ⟨frA.below, fun b hb ho => frA.same b hb fun h => ho (wait_owned b h), fun b hb => (frA.own b (hob b hb)).imp (wait_owned b) (fun h => h), fun b hb => ?_, frA.isub, frA.cf⟩
  rcases frA.inew b hb with h | h | h
  · exact .inl h
  · exact .inr (.inl (wait_owned b h))
  · exact .inr (.inr h)

/-- A RANGE OVER A FUNCTION -/
theorem AWP.rangeFunc {go : Operand} {ps : Array Nat} {assign body : Code} {s : St} {Q : Exit → St → Prop} {f : FuncId} {first cap : List AV} (hev : ev s.env go = .fn f first cap)
    (h : AIn P f (first ++ [.yld s.nx] ++ cap) ⟨s.env, (s.nx, .loop .ready none N s.env ps assign body) :: s.heap, s.nx + 1⟩ (fun _ s2 => ∃ st pe, hlook s2.heap s.nx = some (.loop st pe N s.env ps assign body) ∧ st ≠ .busy ∧
      ∃ e, jumpOf e = some pe ∧ Q e ⟨s.env, hdel s2.heap s.nx, s2.nx⟩)) : AWP P N false (.rangeFunc go ps assign body) s Q := by
  intro r n I g w a hro hN hdl ok
  cases hro rfl
  obtain ⟨hr, hon⟩ := ev_rep (nx := s.nx) ok go
  rw [hev] at hr hon
  simp only [RA, AV.on] at hr hon
  obtain ⟨u1, u2, hex, hr1, hr2⟩ := hr
  simp only [List.cons.injEq, and_true] at hex
  obtain ⟨ho1, ho2⟩ := hon
  refine wpIn_rangeFunc fun fn _ => ?_
  obtain ⟨w1, hw1⟩ : ∃ w1, (w.alloc (.deferred (some []))).alloc (.loop { state := .ready, pending := none, fn, tmps := a.tmps, params := ps, assign, body, defers := w.heap.size }) = w1 := ⟨_, rfl⟩
  have hsz1 : w1.heap.size = w.heap.size + 2 := by rw [← hw1]; simp
  have hL1 : w1.heap[w.heap.size + 1]? = some (.loop { state := .ready, pending := none, fn, tmps := a.tmps, params := ps, assign, body, defers := w.heap.size }) := by
    rw [← hw1]; have := World.alloc_heap_new (w.alloc (.deferred (some []))) (.loop { state := .ready, pending := none, fn, tmps := a.tmps, params := ps, assign, body, defers := w.heap.size }); rwa [World.size_alloc] at this
  have hK1 : w1.heap[w.heap.size]? = some (.deferred (some [])) := by
    rw [← hw1]; exact (Below.heap_alloc _ _ _ (by simp)).trans (World.alloc_heap_new w _)
  have hold : ∀ b, b < w.heap.size → w1.heap[b]? = w.heap[b]? := fun b hb => by
    rw [← hw1]; exact (Below.heap_alloc _ _ b (by simp; omega)).trans (Below.heap_alloc _ _ b hb)
  have hbel : Below 0 w w1 := by rw [← hw1]; exact ⟨rfl, rfl, rfl, by simp; omega, fun k hk => absurd hk (by omega)⟩
  have hcf1 : CF w w1 := by rw [← hw1]; exact CF.trans (CF.alloc w (by intro C T fr h; cases h)) (CF.alloc _ (by intro C T fr h; cases h))
  -- the record, as a block of the function's own
  let g0 : Gh := { g with frm := fun j => if j = s.nx then (a.tmps, w.heap.size + 1) else g.frm j }
  have hnx : ∀ id x, hlook s.heap id = some x → id ≠ s.nx := by
    intro id x hx e
    have := ok.heap.dom id x hx
    subst e
    cases x with
    | var cs => exact Dn_fresh s _ this.1
    | list e sz xs f fl => exact Dn_fresh s _ this.1
    | loop st pe n0 env ps x y => exact Dn_fresh s _ this.1
    | frame env => exact Dn_fresh s _ this.1
    | rvar cells => exact Dn_fresh s _ this
  have okh0 : HOk (Dn s) I g0 w s.heap := ok.heap.cg (by rfl) (by rfl) (by rfl) (fun id x hx => by
    show (if id = s.nx then (a.tmps, w.heap.size + 1) else g.frm id) = g.frm id
    rw [if_neg (hnx id x hx)])
  have gs : Gh.same (Dn s) g0 (g0.withBlk s.nx (w.heap.size + 1)) := Gh.withBlk_same (Dn_fresh s)
  have so : SameOn I w w1 := fun b hb => hold b (ok.small b hb)
  have hblk : (g0.withBlk s.nx (w.heap.size + 1)).blk s.nx = w.heap.size + 1 := by simp [Gh.withBlk]
  have hfrm : (g0.withBlk s.nx (w.heap.size + 1)).frm s.nx = (a.tmps, w.heap.size + 1) := by
    show (if s.nx = s.nx then (a.tmps, w.heap.size + 1) else g.frm s.nx) = _
    rw [if_pos rfl]
  have env0 : ∀ t, RA I g0 w (look s.env t) [a.tmps.getD t undef] := fun t => (ok.env t).cg (by rfl) (by rfl)
  have t1 : Tr (Dn s) I g0 w s.heap (plus (Dn s) s.nx 0) I (g0.withBlk s.nx (w.heap.size + 1)) w1 ((s.nx, .loop .ready none N s.env ps assign body) :: s.heap) := by
    refine Tr.new okh0 ok.small (Dn_fresh s) hbel hcf1 hold gs ⟨rfl, rfl⟩ ?_ ⟨.inr ⟨rfl, rfl⟩, fun t => AV.on_mono plus_sub _ (ok.on t)⟩ (fun b hb => ?_)
    · refine ⟨⟨fn, w.heap.size, ?_⟩, ?_, fun t => ?_, fun hi => ?_⟩
      · rw [hblk, hfrm]; exact hL1
      · rw [hblk, hfrm]; exact ⟨hN, rfl⟩
      · rw [hfrm]; exact RA.mono so (fun _ h => h) gs _ _ (ok.on t) (env0 t)
      · rw [hblk] at hi; have := ok.small _ hi; omega
    · simp only [ownB, hblk, Option.some.injEq] at hb; omega
  have hb1 : ∀ i m, plus (Dn s) s.nx 0 i m → Dn ⟨s.env, (s.nx, .loop .ready none N s.env ps assign body) :: s.heap, s.nx + 1⟩ i m := by
    rintro i m hd
    refine ⟨?_, fun e sz xs f fl hx => ?_⟩
    · rcases hd with hd | ⟨rfl, _⟩
      · exact Nat.lt_succ_of_lt hd.1
      · exact Nat.lt_succ_self _
    · simp only [hlook] at hx
      split at hx
      · cases hx
      · rename_i hne
        rcases hd with hd | ⟨rfl, _⟩
        · exact hd.2 e sz xs f fl hx
        · exact absurd rfl hne
  have ok1 : StOk (Dn ⟨s.env, (s.nx, .loop .ready none N s.env ps assign body) :: s.heap, s.nx + 1⟩) I (g0.withBlk s.nx (w.heap.size + 1)) w1 a ⟨s.env, (s.nx, .loop .ready none N s.env ps assign body) :: s.heap, s.nx + 1⟩ :=
    ⟨fun t => RA.mono so (fun _ h => h) gs _ _ (ok.on t) (env0 t), fun t => AV.on_mono (fun i m hd => hb1 i m (.inl hd)) _ (ok.on t), t1.heap.toDn (e := s.env) hb1, t1.small⟩
  have hmono : ∀ {xs : List AV} {us : List Value}, AV.ons (Dn s) xs → RAEs I g w xs us → RAEs I (g0.withBlk s.nx (w.heap.size + 1)) w1 xs us := fun ho hr =>
    RAEs.mono so (fun _ h => h) (g := g0) gs _ _ ho (hr.cg (by rfl) (by rfl))
  have hargs : RAEs I (g0.withBlk s.nx (w.heap.size + 1)) w1 (first ++ [.yld s.nx] ++ cap) (u1 ++ #[Value.func (.yield (w.heap.size + 1)) #[] #[]] ++ u2).toList := by
    have happ : ∀ {xs ys : List AV} {us vs : List Value}, RAEs I (g0.withBlk s.nx (w.heap.size + 1)) w1 xs us → RAEs I (g0.withBlk s.nx (w.heap.size + 1)) w1 ys vs → RAEs I (g0.withBlk s.nx (w.heap.size + 1)) w1 (xs ++ ys) (us ++ vs) := by
      intro xs
      induction xs with
      | nil => intro ys us vs h k; simp only [RAEs] at h; subst h; simpa using k
      | cons c cs ih => intro ys us vs h k; simp only [RAEs, List.cons_append] at h ⊢; obtain ⟨v, v2, rfl, h1, h2⟩ := h; exact ⟨v, _, rfl, h1, ih h2 k⟩
    have hy : RAEs I (g0.withBlk s.nx (w.heap.size + 1)) w1 [.yld s.nx] [Value.func (.yield (w.heap.size + 1)) #[] #[]] := by
      simp only [RAEs, RA, hblk]
      exact ⟨_, [], rfl, rfl, rfl⟩
    have := happ (happ (hmono ho1 hr1) hy) (hmono ho2 hr2)
    simpa using this
  have hons : AV.ons (Dn ⟨s.env, (s.nx, .loop .ready none N s.env ps assign body) :: s.heap, s.nx + 1⟩) (first ++ [.yld s.nx] ++ cap) :=
    ons_append (ons_append (AV.ons_mono (fun i m hd => hb1 i m (.inl hd)) _ ho1) (by simp only [AV.ons, AV.on, and_true]; exact hb1 _ _ (.inr ⟨rfl, rfl⟩))) (AV.ons_mono (fun i m hd => hb1 i m (.inl hd)) _ ho2)
  refine ⟨w.heap.size + 1, [{ target := .collected w.heap.size, args := #[] }], w1, { target := .fn (.func f) u2, args := u1 ++ #[.func (.yield (w.heap.size + 1)) #[] #[]] }, w1, f,
    u1 ++ #[.func (.yield (w.heap.size + 1)) #[] #[]] ++ u2, w1, ?_, ?_, fun _ _ => trivial, ?_, fun hdep => by simp [wideR] at hdep, ?_⟩
  · rw [← hw1]; exact run_enterLoop_outer _ _ _ _ _
  · simp only [resolve, rangeCall, Sem.run_bind, hex, Deferred.ofValue, Sem.run_pure, Result.andThen_ok]
    simp [Act.eval]
  · simp only [invoke]; exact pfun_run h.1 _ _
  · refine callsIn_wideR.2 ((h.2 I _ w1 a _ ok1 hargs hons).mono ?_)
    rintro e w3 ⟨v, av, s2, I2, g2, rfl, ⟨st, pe, hl2, hst, ej, hj, hq⟩, ok2, hrv, hov, fr2, kp2⟩
    obtain ⟨⟨fn2, d2, hC2⟩, hsz2, hrep2, hnI2⟩ := ok2.heap.blk _ _ hl2
    have hdom2 := ok2.heap.dom _ _ hl2
    have hg2 : g2.frm s.nx = (a.tmps, w.heap.size + 1) := by rw [kp2.1, hfrm]
    have hb2 : g2.blk s.nx = w.heap.size + 1 := by rw [hsz2.2, hg2]
    rw [hb2] at hC2 hnI2
    have hend := run_endLoop (P := P) hC2 hst
    obtain ⟨w4, hw4⟩ : ∃ w4, w3.putObj (w.heap.size + 1) (.loop { state := .exhausted, pending := pe, fn := fn2, tmps := (g2.frm s.nx).1, params := ps, assign := assign, body := body, defers := d2 }) = w4 := ⟨_, rfl⟩
    have hend' : (Instr.endLoop (w.heap.size + 1)).run P w3 = .ok pe w4 := by rw [hend, ← hw4]
    have hoth : ∀ b, b ≠ w.heap.size + 1 → w4.heap[b]? = w3.heap[b]? := fun b hb => by rw [← hw4]; exact World.putObj_heap_other hb
    have hsz4 : w4.heap.size = w3.heap.size := by rw [← hw4]; simp
    have hcf4 : CF w3 w4 := by rw [← hw4]; exact CF.putObj (by intro C T fr h; cases h)
    -- what is owned
    have hO1 : ∀ b, Owned (g0.withBlk s.nx (w.heap.size + 1)) ((s.nx, .loop .ready none N s.env ps assign body) :: s.heap) b → Owned g s.heap b ∨ b = w.heap.size + 1 := by
      rintro b ⟨id, x, hx, hop, hb⟩
      simp only [hlook] at hx
      split at hx
      · rename_i e; subst e; cases hx
        simp only [ownB, hblk, Option.some.injEq] at hb
        exact .inr hb.symm
      · refine .inl ⟨id, x, hx, hop, ?_⟩
        rwa [ownB_same gs (ok.heap.dom id x hx), ownB_cg (g := g) (g' := g0) rfl rfl] at hb
    have hOlt : ∀ b, Owned g s.heap b → b < w.heap.size := by
      rintro b ⟨id, x, hx, _, hb⟩
      exact ok.heap.own_lt hx hb
    -- the state behind
    have hI4 : ∀ b, I2 b → w4.heap[b]? = w3.heap[b]? := fun b hb => hoth b fun e => hnI2 (by rw [← e]; exact hb)
    have ok3 : StOk (Dn ⟨s.env, hdel s2.heap s.nx, s2.nx⟩) I2 { g2 with frm := g.frm } w4 { a with defers := [{ target := .collected w.heap.size, args := #[] }] ++ a.defers } ⟨s.env, hdel s2.heap s.nx, s2.nx⟩ := by
      refine ⟨fun t => ?_, fun t => ?_, ?_, fun b hb => by rw [hsz4]; exact ok2.small b hb⟩
      · have := hrep2 t
        rw [hg2] at this
        exact RA.mono (D := fun _ _ => True) hI4 (fun _ h => h) (g := g2) (g' := { g2 with frm := g.frm }) (fun _ _ _ => ⟨rfl, rfl⟩) _ _ ((on_all _ (fun _ _ => trivial)).1 _) this
      · exact AV.on_mono (Dn_del (e := s2.env)) _ (hdom2.2 t)
      · have h1 := (ok2.heap.del s.nx).toDn (e := s.env) (nx := s2.nx) (Dn_del (e := s2.env))
        have h2 : HOk (Dn ⟨s.env, hdel s2.heap s.nx, s2.nx⟩) I2 g2 w4 (hdel s2.heap s.nx) := by
          refine h1.world hI4 (fun id x b hx hb => hoth b fun e => ?_) (by rw [hsz4]; exact Nat.le_refl _) hcf4
          rw [hlook_hdel] at hx
          split at hx
          · cases hx
          · rename_i hne
            subst e
            exact ok2.heap.sep id s.nx x _ _ (Ne.symm hne) hx hl2 hb (by simp only [ownB, hb2])
        refine h2.cg (by rfl) (by rfl) (by rfl) fun id x hx => ?_
        rw [hlook_hdel] at hx
        split at hx
        · cases hx
        · rename_i hne
          show g.frm id = g2.frm id
          rw [kp2.1]
          show _ = (if id = s.nx then (a.tmps, w.heap.size + 1) else g.frm id)
          rw [if_neg (Ne.symm hne)]
    have hO3 : ∀ b, Owned { g2 with frm := g.frm } (hdel s2.heap s.nx) b → Owned g2 s2.heap b ∧ b ≠ w.heap.size + 1 := by
      intro b hb
      rw [Owned_cg (g := g2) (g' := { g2 with frm := g.frm }) rfl rfl] at hb
      refine ⟨Owned.del hb, fun e => ?_⟩
      obtain ⟨id, x, hx, _, hxb⟩ := hb
      rw [hlook_hdel] at hx
      split at hx
      · cases hx
      · rename_i hne
        subst e
        exact ok2.heap.sep id s.nx x _ _ (Ne.symm hne) hx hl2 hxb (by simp only [ownB, hb2])
    have frF : Fr I (Owned g s.heap) w I2 (Owned { g2 with frm := g.frm } (hdel s2.heap s.nx)) w4 := by
      refine ⟨hbel.trans (fr2.below.trans ?_), fun b hb ho => ?_, fun b hb => ?_, fun b hb => ?_, fr2.isub, hcf1.trans (fr2.cf.trans hcf4)⟩
      · rw [← hw4]; exact ⟨rfl, rfl, rfl, by simp, fun k hk => absurd hk (by omega)⟩
      · rw [hoth b (by omega), fr2.same b (by omega) (fun h => (hO1 b h).elim ho (by omega)), hold b hb]
      · obtain ⟨h1, h2⟩ := hO3 b hb
        rcases fr2.own b h1 with h | h
        · exact (hO1 b h).imp_right fun h => absurd h h2
        · right; omega
      · rcases fr2.inew b hb with h | h | h
        · exact .inl h
        · rcases hO1 b h with h | h
          · exact .inr (.inl h)
          · right; right; omega
        · right; right; omega
    have hdl4 : DlOk ([{ target := .collected w.heap.size, args := #[] }] ++ a.defers) I2 (Owned { g2 with frm := g.frm } (hdel s2.heap s.nx)) w4 := by
      have hdlF := hdl.fr frF
      refine ⟨?_, fun d hd => ?_⟩
      · simp only [List.cons_append, List.nil_append, List.nodup_cons]
        refine ⟨fun hm => ?_, hdl.nd⟩
        obtain ⟨r, e, hr, _⟩ := hdl.mark _ hm
        cases e
        have := (Array.getElem?_eq_some_iff.1 hr).1
        omega
      · rcases List.mem_append.1 hd with hd | hd
        · simp only [List.mem_singleton] at hd
          refine ⟨w.heap.size, hd, ?_, fun hi => ?_, fun ho => ?_⟩
          · rw [hoth _ (by omega), fr2.same _ (by omega) (fun h => (hO1 _ h).elim (fun h => by have := hOlt _ h; omega) (by omega))]
            exact hK1
          · rcases fr2.inew _ hi with h | h | h
            · have := ok.small _ h; omega
            · rcases hO1 _ h with h | h
              · have := hOlt _ h; omega
              · omega
            · omega
          · obtain ⟨h1, h2⟩ := hO3 _ ho
            rcases fr2.own _ h1 with h | h
            · rcases hO1 _ h with h | h
              · have := hOlt _ h; omega
              · omega
            · omega
        · exact hdlF.mark d hd
    have hpost : Post N I (Owned g s.heap) g w a.defers Q ej { a with defers := [{ target := .collected w.heap.size, args := #[] }] ++ a.defers } w4 := by
      refine ⟨_, I2, { g2 with frm := g.frm }, hq, hN, ⟨hdl4, fun r hr => ?_⟩, ok3, frF, ⟨rfl, kp2.2⟩⟩
      rcases List.mem_append.1 hr with hr | hr
      · simp only [List.mem_singleton, Deferred.mk.injEq, Target.collected.injEq, and_true] at hr
        right; omega
      · exact .inl hr
    refine ⟨pe, w4, hend', ?_⟩
    cases ej with
    | normal => simp only [jumpOf, Option.some.injEq] at hj; subst hj; exact hpost
    | ret => simp only [jumpOf, Option.some.injEq] at hj; subst hj; exact wpIn_ret hpost
    | exit id => simp only [jumpOf, Option.some.injEq] at hj; subst hj; exact wpIn_exit hpost
    | goto t => simp only [jumpOf, Option.some.injEq] at hj; subst hj; exact wpIn_goto hpost
    | panic c => simp [jumpOf] at hj
    | outgrown => simp [jumpOf] at hj

end
end Go.Abs

namespace Go.Abs
open Go Go.RowKit

section
variable {F : Fence} {n : Nat} {P : Program} {b : Frame} {a : Act} {k : List Item} {cs : List Frame} {w : World} {Q : Exit → Act → World → Prop}

theorem stepR_scope {c : Code} : step P (lone (b.atR a (.code (.scope c) :: k)) cs w) = .next (lone (b.atR a (.code c :: .inScope c :: k)) cs w) :=
  step_lone_go (by simp [stepG, stepG.exec, Frame.atR])
theorem stepR_inScope {c : Code} : step P (lone (b.atR a (.inScope c :: k)) cs w) = .next (lone (b.atR a k) cs w) :=
  step_lone_go (by simp [stepG, stepG.exec, Frame.atR])

/-- by a goto to a label of the scope: what stands behind it goes on, and does not jump again -/
def scopePost (F : Fence) (n : Nat) (P : Program) (c : Code) (Q : Exit → Act → World → Prop) : Exit → Act → World → Prop
  | .goto l, a, w => ∃ rest, findLabel c l = some rest ∧ rest.wpIn F n P (Exit.noGoto Q) a w
  | e, a, w => Q e a w

theorem wpIn_scope {c : Code} (h : c.wpIn F n P (scopePost F n P c Q) a w) : (Code.scope c).wpIn F n P Q a w := by
  intro b k cs hro hb hr
  have h0 : (lone (b.atR a (.code (.scope c) :: k)) cs w).fenced P F := fenced_calm hb hr rfl
  have hxe : ∀ id', exitTo id' (.inScope c :: k) = exitTo id' k := fun id' => by simp [exitTo]
  obtain ⟨e, a₁, w₁, hq, harr⟩ := h b (.inScope c :: k) cs hro hb hr
  cases e with
  | normal => exact ⟨.normal, a₁, w₁, hq, .head h0 stepR_scope (StepsIn.trans harr (.one (fenced_calm hb hr rfl) stepR_inScope))⟩
  | exit id' => exact ⟨.exit id', a₁, w₁, hq, fun k' hk => .head h0 stepR_scope (harr.1 k' (by rw [hxe]; exact hk)), fun hr' hk => let ⟨k₁, h1, h2⟩ := harr.2 hr' (by rw [hxe]; exact hk); ⟨k₁, h1, .head h0 stepR_scope h2⟩⟩
  | goto l =>
    obtain ⟨rest, hf, hrest⟩ := hq
    have hg : gotoIn l (.inScope c :: k) = some (.code rest :: .inScope c :: k) := by simp [gotoIn, hf]
    have s1 := harr.1 _ hg
    obtain ⟨e₂, a₂, w₂, hq₂, harr₂⟩ := hrest b (.inScope c :: k) cs hro hb hr
    have s2 : StepsIn (Machine.fenced P F) P (lone (b.atR a (.code (.scope c) :: k)) cs w) (lone (b.atR a₁ (.code rest :: .inScope c :: k)) cs w₁) := .head h0 stepR_scope s1
    cases e₂ with
    | normal => exact ⟨.normal, a₂, w₂, hq₂, StepsIn.trans s2 (StepsIn.trans harr₂ (.one (fenced_calm hb hr rfl) stepR_inScope))⟩
    | exit id' => exact ⟨.exit id', a₂, w₂, hq₂, fun k' hk => StepsIn.trans s2 (harr₂.1 k' (by rw [hxe]; exact hk)), fun hr' hk => let ⟨k₁, h1, h2⟩ := harr₂.2 hr' (by rw [hxe]; exact hk); ⟨k₁, h1, StepsIn.trans s2 h2⟩⟩
    | goto l => exact hq₂.elim
    | ret => exact ⟨_, a₂, w₂, hq₂, .of_steps s2 harr₂⟩
    | panic ch => exact ⟨_, a₂, w₂, hq₂, .of_steps s2 harr₂⟩
    | outgrown => exact ⟨_, a₂, w₂, hq₂, .of_steps s2 harr₂⟩
  | ret => exact ⟨_, a₁, w₁, hq, .of_steps (.one h0 stepR_scope) harr⟩
  | panic ch => exact ⟨_, a₁, w₁, hq, .of_steps (.one h0 stepR_scope) harr⟩
  | outgrown => exact ⟨_, a₁, w₁, hq, .of_steps (.one h0 stepR_scope) harr⟩
end

section
variable {P : Program} {rd : Bool} {N : Nat}

def noGotoQ (Q : Exit → St → Prop) : Exit → St → Prop
  | .goto _, _ => False
  | e, s => Q e s

/-- jumps forward -/
def scopeQ (P : Program) (N : Nat) (rd : Bool) (c : Code) (Q : Exit → St → Prop) : Exit → St → Prop
  | .goto l, s => ∃ rest, findLabel c l = some rest ∧ AWP P N rd rest s (noGotoQ Q)
  | e, s => Q e s

theorem AWP.scope {c : Code} {s : St} {Q : Exit → St → Prop} (h : AWP P N rd c s (scopeQ P N rd c Q)) : AWP P N rd (.scope c) s Q := by
  intro r n I g w a hro hN hdl ok
  refine wpIn_scope (wpIn_mono (h r n I g w a hro hN hdl ok) ?_)
  rintro e a' w' ⟨s', I', g', q, hn, hd, ok', fr, kp⟩
  cases e with
  | goto l =>
    obtain ⟨rest, hf, hrest⟩ := q
    refine ⟨rest, hf, wpIn_mono (hrest r n I' g' w' a' hro hn hd.1 ok') ?_⟩
    intro e a2 w2 hp
    have hp2 := Post.trans fr kp hd.2 hp
    obtain ⟨s2, I2, g2, q2, rest2⟩ := hp2
    cases e with
    | goto l => exact q2.elim
    | normal => exact ⟨s2, I2, g2, q2, rest2⟩
    | exit id => exact ⟨s2, I2, g2, q2, rest2⟩
    | ret => exact ⟨s2, I2, g2, q2, rest2⟩
    | panic c => exact ⟨s2, I2, g2, q2, rest2⟩
    | outgrown => exact ⟨s2, I2, g2, q2, rest2⟩
  | normal => exact ⟨s', I', g', q, hn, hd, ok', fr, kp⟩
  | exit id => exact ⟨s', I', g', q, hn, hd, ok', fr, kp⟩
  | ret => exact ⟨s', I', g', q, hn, hd, ok', fr, kp⟩
  | panic c => exact ⟨s', I', g', q, hn, hd, ok', fr, kp⟩
  | outgrown => exact ⟨s', I', g', q, hn, hd, ok', fr, kp⟩
end
end Go.Abs

namespace Go.Abs
open Go Go.RowKit

mutual
def idsA : AV → List Nat
  | .p _ | .undef => []
  | .hs id _ => [id]
  | .ptr id _ => [id]
  | .eptr id _ _ _ _ => [id]
  | .aptr id _ _ => [id]
  | .fn _ a b => idsAs a ++ idsAs b
  | .yld id => [id]
  | .agg cs => idsAs cs
  | .tup cs => idsAs cs
def idsAs : List AV → List Nat
  | [] => []
  | c :: cs => idsA c ++ idsAs cs
end

def tmpsOf : List Operand → List Nat
  | [] => []
  | .tmp t :: xs => t :: tmpsOf xs
  | _ :: xs => tmpsOf xs

def opIds (env : List (Nat × AV)) : List Operand → List Nat
  | [] => []
  | x :: xs => idsA (ev env x) ++ opIds env xs

def partIds : List (Nat × AV) → List Nat
  | [] => []
  | (_, v) :: r => idsA v ++ partIds r

/-- the blocks that it looks at -/
def lkOf (env : List (Nat × AV)) (nid : Nat) (o : Oper) : List Nat :=
  match o.op with
  | .load _ x | .indexAddr _ x _ | .store _ x _ | .slice _ x _ _ _ | .convert _ _ x => idsA (ev env x)
  | .alloc _ | .box _ _ | .makeSlice _ _ _ => [nid]
  | .buildSlice _ _ parts => nid :: partIds (aparts env parts)
  | .call { callee := .builtin .append, args, .. } => nid :: opIds env args.toList
  | _ => []
/-- the blocks that it turns -/
def chOf (env : List (Nat × AV)) (nid : Nat) (o : Oper) : List Nat :=
  match o.op with
  | .store _ x _ | .slice _ x _ _ _ => idsA (ev env x)
  | .alloc _ | .box _ _ | .makeSlice _ _ _ => [nid]
  | .buildSlice _ _ parts => nid :: partIds (aparts env parts)
  | .call { callee := .builtin .append, args, .. } => nid :: opIds env args.toList
  | _ => []

/-! ### to values without addresses: only the blocks that are named count -/
mutual
theorem toP_congr {h h' : Heap} : ∀ (c : AV), (∀ id ∈ idsA c, hlook h' id = hlook h id) → toP h' c = toP h c
  | .p _, _ => by simp only [toP]
  | .hs id n, e => by simp only [toP]; rw [e id (by simp [idsA])]
  | .ptr _ _, _ => by simp only [toP]
  | .eptr _ _ _ _ _, _ => by simp only [toP]
  | .aptr _ _ _, _ => by simp only [toP]
  | .fn _ _ _, _ => by simp only [toP]
  | .yld _, _ => by simp only [toP]
  | .agg cs, e => by simp only [toP, toPs_congr cs (fun id h => e id (by simpa [idsA] using h))]
  | .tup cs, e => by simp only [toP, toPs_congr cs (fun id h => e id (by simpa [idsA] using h))]
  | .undef, _ => by simp only [toP]
theorem toPs_congr {h h' : Heap} : ∀ (cs : List AV), (∀ id ∈ idsAs cs, hlook h' id = hlook h id) → toPs h' cs = toPs h cs
  | [], _ => by simp only [toPs]
  | c :: cs, e => by
    simp only [toPs, toP_congr c (fun id h => e id (by simp [idsAs, h])), toPs_congr cs (fun id h => e id (by simp [idsAs, h]))]
end

mutual
theorem freshA_congr {h h' : Heap} : ∀ (c : AV), (∀ id ∈ idsA c, hlook h' id = hlook h id) → freshA h' c = freshA h c
  | .p _, _ => by simp only [freshA]
  | .hs id n, e => by simp only [freshA]; rw [e id (by simp [idsA])]
  | .ptr _ _, _ => by simp only [freshA]
  | .eptr _ _ _ _ _, _ => by simp only [freshA]
  | .aptr _ _ _, _ => by simp only [freshA]
  | .fn _ _ _, _ => by simp only [freshA]
  | .yld _, _ => by simp only [freshA]
  | .agg cs, e => by simp only [freshA, freshAs_congr cs (fun id h => e id (by simpa [idsA] using h))]
  | .tup cs, e => by simp only [freshA, freshAs_congr cs (fun id h => e id (by simpa [idsA] using h))]
  | .undef, _ => by simp only [freshA]
theorem freshAs_congr {h h' : Heap} : ∀ (cs : List AV), (∀ id ∈ idsAs cs, hlook h' id = hlook h id) → freshAs h' cs = freshAs h cs
  | [], _ => by simp only [freshAs]
  | c :: cs, e => by
    simp only [freshAs, freshA_congr c (fun id h => e id (by simp [idsAs, h])), freshAs_congr cs (fun id h => e id (by simp [idsAs, h]))]
end
theorem freshSrc_congr {h h' : Heap} {y : AV} (e : ∀ id ∈ idsA y, hlook h' id = hlook h id) : freshSrc h' y = freshSrc h y := by
  cases y with
  | hs id n => have := e id (by simp [idsA]); simp only [freshSrc, this]
  | p c => cases c <;> rfl
  | _ => rfl

/-- turns block by block -/
structure Ptw (ids : List Nat) (T : Heap → Heap) : Prop where
  same : ∀ {h h' : Heap} {id : Nat}, hlook h' id = hlook h id → hlook (T h') id = hlook (T h) id
  out : ∀ {h : Heap} {id : Nat}, id ∉ ids → hlook (T h) id = hlook h id

theorem Ptw.comp {i1 i2 : List Nat} {T1 T2 : Heap → Heap} (a : Ptw i1 T1) (b : Ptw i2 T2) : Ptw (i1 ++ i2) (fun h => T2 (T1 h)) :=
  ⟨fun e => b.same (a.same e), fun hn => by simp at hn; exact (b.out hn.2).trans (a.out hn.1)⟩
theorem Ptw.id (ids : List Nat) : Ptw ids (fun h => h) := ⟨fun e => e, fun _ => rfl⟩

mutual
theorem frz_ptw : ∀ (c : AV), Ptw (idsA c) (fun h => frz h c)
  | .p _ => by simpa only [frz] using Ptw.id _
  | .hs id n => by
    refine ⟨fun {h h' j} e => ?_, fun {h j} hn => ?_⟩
    · simp only [frz]
      by_cases hj : id = j
      · subst hj
        rw [e]
        split
        · rename_i e0 sz xs f fl hx
          rw [hlook_hset hx, hlook_hset (by rw [e]; exact hx), if_pos rfl, if_pos rfl]
        · exact e
      · have hout : ∀ (h : Heap), hlook (match hlook h id with | some (.list e sz xs _ fl) => hset h id (.list e sz xs true fl) | _ => h) j = hlook h j := by
          intro h
          split
          · rename_i hx; rw [hlook_hset hx, if_neg hj]
          · rfl
        exact (hout h').trans (e.trans (hout h).symm)
    · simp only [frz]
      simp only [idsA, List.mem_singleton] at hn
      split
      · rename_i hx; rw [hlook_hset hx, if_neg (Ne.symm hn)]
      · rfl
  | .ptr _ _ => by simpa only [frz] using Ptw.id _
  | .eptr _ _ _ _ _ => by simpa only [frz] using Ptw.id _
  | .aptr _ _ _ => by simpa only [frz] using Ptw.id _
  | .fn _ _ _ => by simpa only [frz] using Ptw.id _
  | .yld _ => by simpa only [frz] using Ptw.id _
  | .agg cs => by simpa only [frz, idsA] using frzs_ptw cs
  | .tup cs => by simpa only [frz, idsA] using frzs_ptw cs
  | .undef => by simpa only [frz] using Ptw.id _
theorem frzs_ptw : ∀ (cs : List AV), Ptw (idsAs cs) (fun h => frzs h cs)
  | [] => by simpa only [frzs] using Ptw.id _
  | c :: cs => by simpa only [frzs, idsAs] using (frz_ptw c).comp (frzs_ptw cs)
end

theorem idsAs_cellsOf (v : AV) : ∀ id ∈ idsAs (cellsOf v), id ∈ idsA v := by
  intro id h
  unfold cellsOf at h
  split at h
  · simpa [idsA] using h
  · rename_i cs
    have : ∀ (cs : List PV), idsAs (cs.map .p) = [] := by
      intro cs
      induction cs with
      | nil => rfl
      | cons c cs ih => simp [idsAs, idsA, ih]
    rw [this] at h
    cases h
  · simpa [idsAs] using h

theorem Ptw.more {ids ids' : List Nat} {T : Heap → Heap} (a : Ptw ids T) (h : ∀ id ∈ ids, id ∈ ids') : Ptw ids' T := ⟨a.same, fun hn => a.out fun hi => hn (h _ hi)⟩

theorem frzParts_ptw : ∀ (ps : List (Nat × AV)), Ptw (partIds ps) (fun h => frzParts h ps)
  | [] => by simpa only [frzParts] using Ptw.id _
  | (i, v) :: r => by
    simp only [frzParts, partIds]
    exact ((frzs_ptw (cellsOf v)).more (idsAs_cellsOf v)).comp (frzParts_ptw r)

theorem aelems_congr {P : Program} {e : TypeId} {h h' : Heap} : ∀ (ps : List (Nat × AV)) (k : Nat), (∀ id ∈ partIds ps, hlook h' id = hlook h id) → aelems P e h' k ps = aelems P e h k ps
  | [], _, _ => rfl
  | (i, v) :: r, k, he => by
    simp only [aelems]
    rw [toPs_congr (cellsOf v) (fun id hi => he id (by simp [partIds, idsAs_cellsOf v id hi])), aelems_congr r (k + 1) (fun id hi => he id (by simp [partIds, hi]))]

/-! ### one operation: two states that agree on what it looks at -/
theorem ev_congr {env env' : List (Nat × AV)} {xs : List Operand} (h : ∀ t ∈ tmpsOf xs, look env' t = look env t) : ∀ x ∈ xs, ev env' x = ev env x := by
  induction xs with
  | nil => intro x hx; cases hx
  | cons y ys ih =>
    intro x hx
    rcases List.mem_cons.1 hx with rfl | hx
    · cases x with
      | tmp t => exact h t (by simp [tmpsOf])
      | _ => rfl
    · refine ih (fun t ht => h t ?_) x hx
      cases y <;> simp [tmpsOf, ht]

theorem mem_opIds {env : List (Nat × AV)} {xs : List Operand} {x : Operand} (hx : x ∈ xs) {id : Nat} (h : id ∈ idsA (ev env x)) : id ∈ opIds env xs := by
  induction xs with
  | nil => cases hx
  | cons y ys ih =>
    simp only [opIds, List.mem_append]
    rcases List.mem_cons.1 hx with rfl | hx
    · exact .inl h
    · exact .inr (ih hx)

theorem vload_congr {P : Program} {h h' : Heap} {t : TypeId} {a : AV} (e : ∀ id ∈ idsA a, hlook h' id = hlook h id) : vload P h' t a = vload P h t a := by
  cases hp : pty P t with
  | none => unfold vload; rw [hp]
  | some p =>
    obtain ⟨agg, n⟩ := p
    cases a with
    | ptr id off => have := e id (by simp [idsA]); simp only [vload, hp, this]
    | aptr id off i => have := e id (by simp [idsA]); simp only [vload, hp, this]
    | eptr id m sz i off => have := e id (by simp [idsA]); simp only [vload, hp, this]
    | p c => cases c <;> simp only [vload, hp]
    | _ => simp only [vload, hp]

/-- the results that two states give -/
structure ResEq (ids : List Nat) (h h' : Heap) (r r' : Res) : Prop where
  vc : r'.vc = r.vc
  v : r'.v = r.v
  same : ∀ id, hlook h' id = hlook h id → hlook r'.heap id = hlook r.heap id
  out : ∀ id, id ∉ ids → hlook r.heap id = hlook h id
  out' : ∀ id, id ∉ ids → hlook r'.heap id = hlook h' id

theorem ResEq.quiet {ids : List Nat} {h h' : Heap} {vc : Prop} {v : AV} : ResEq ids h h' ⟨vc, v, h⟩ ⟨vc, v, h'⟩ := ⟨rfl, rfl, fun _ e => e, fun _ _ => rfl, fun _ _ => rfl⟩
theorem ResEq.new {ids : List Nat} {h h' : Heap} {vc : Prop} {v : AV} {nid : Nat} {b : ABlk} (hn : nid ∈ ids) : ResEq ids h h' ⟨vc, v, (nid, b) :: h⟩ ⟨vc, v, (nid, b) :: h'⟩ := by
  refine ⟨rfl, rfl, fun id e => ?_, fun id hi => ?_, fun id hi => ?_⟩
  · simp only [hlook, e]
  · simp only [hlook]; rw [if_neg (fun q : nid = id => hi (by rw [← q]; exact hn))]
  · simp only [hlook]; rw [if_neg (fun q : nid = id => hi (by rw [← q]; exact hn))]
theorem ResEq.set {ids : List Nat} {h h' : Heap} {vc : Prop} {v : AV} {id0 : Nat} {b x : ABlk} (hx : hlook h id0 = some x) (hx' : hlook h' id0 = some x) (hn : id0 ∈ ids) : ResEq ids h h' ⟨vc, v, hset h id0 b⟩ ⟨vc, v, hset h' id0 b⟩ := by
  refine ⟨rfl, rfl, fun id e => ?_, fun id hi => ?_, fun id hi => ?_⟩
  · dsimp only; rw [hlook_hset hx, hlook_hset hx', e]
  · dsimp only; rw [hlook_hset hx, if_neg (fun q : id0 = id => hi (by rw [← q]; exact hn))]
  · dsimp only; rw [hlook_hset hx', if_neg (fun q : id0 = id => hi (by rw [← q]; exact hn))]

theorem asrc_congr {h h' : Heap} {y : AV} (e : ∀ id ∈ idsA y, hlook h' id = hlook h id) : asrc h' y = asrc h y := by
  cases y with
  | hs id n => have := e id (by simp [idsA]); simp only [asrc, this]
  | p c => cases c <;> rfl
  | _ => rfl

theorem bytesV_congr {h h' : Heap} {y : AV} (e : ∀ id ∈ idsA y, hlook h' id = hlook h id) : bytesV h' y = bytesV h y := by
  have := asrc_congr e
  unfold bytesV
  split
  · rfl
  · rw [this]

theorem aslice_congr {P : Program} {h h' : Heap} {t : TypeId} {x : AV} {lo hi : Option AV} {ids : List Nat} {r : Res} (e : ∀ id ∈ idsA x, hlook h' id = hlook h id) (hids : ∀ id ∈ idsA x, id ∈ ids) (hr : aslice P h t x lo hi = some r) :
    ∃ r', aslice P h' t x lo hi = some r' ∧ ResEq ids h h' r r' := by
  unfold aslice at hr ⊢
  dsimp only at hr ⊢
  split at hr
  · rename_i l sz xs hl hx
    simp only [Option.bind_eq_some_iff] at hr ⊢
    obtain ⟨u, hu, hr⟩ := hr
    split at hr
    · rename_i hp; cases hr; exact ⟨_, ⟨u, hu, by rw [if_pos hp]⟩, .quiet⟩
    · cases hr
  · rename_i l hl hx
    simp only [Option.bind_eq_some_iff] at hr ⊢
    obtain ⟨u, hu, hr⟩ := hr
    split at hr
    · rename_i hp; cases hr; exact ⟨_, ⟨u, hu, by rw [if_pos hp]⟩, .quiet⟩
    · cases hr
  · rename_i l id n hl
    have hq := e id (by simp [idsA])
    split at hr
    · rename_i e0 sz xs f fl hlk
      have hlk' : hlook h' id = some (.list e0 sz xs f fl) := by rw [hq]; exact hlk
      rw [hlk']
      simp only [Option.bind_eq_some_iff] at hr ⊢
      obtain ⟨u, hu, hr⟩ := hr
      split at hr
      · rename_i hp; cases hr; exact ⟨_, ⟨u, hu, by rw [if_pos hp]⟩, .set hlk hlk' (hids id (by simp [idsA]))⟩
      · cases hr
    · cases hr
  · rename_i l s hl hx
    simp only [Option.bind_eq_some_iff] at hr ⊢
    obtain ⟨u, hu, hr⟩ := hr
    split at hr
    · rename_i hp; cases hr; exact ⟨_, ⟨u, hu, by rw [if_pos hp]⟩, .quiet⟩
    · cases hr
  · cases hr

theorem vstore_congr {P : Program} {h h' : Heap} {t : TypeId} {a v : AV} {ids : List Nat} {h1 : Heap} (e : ∀ id ∈ idsA a, hlook h' id = hlook h id) (hids : ∀ id ∈ idsA a, id ∈ ids) (hr : vstore P h t a v = some h1) :
    ∃ h1', vstore P h' t a v = some h1' ∧ ResEq ids h h' ⟨True, .undef, h1⟩ ⟨True, .undef, h1'⟩ := by
  unfold vstore at hr ⊢
  split at hr
  · rename_i n id off hp
    have hq := e id (by simp [idsA])
    split at hr
    · rename_i cells hx
      have hx' : hlook h' id = some (.var cells) := by rw [hq]; exact hx
      rw [hx']
      split at hr
      · rename_i hc
        simp only [Option.map_eq_some_iff] at hr
        obtain ⟨cs, h1, rfl⟩ := hr
        exact ⟨_, by simp only [if_pos hc, h1, Option.map_some], .set hx hx' (hids id (by simp [idsA]))⟩
      · cases hr
    · cases hr
  · rename_i n id off i hp
    have hq := e id (by simp [idsA])
    split at hr
    · rename_i cells hx
      have hx' : hlook h' id = some (.var cells) := by rw [hq]; exact hx
      rw [hx']
      dsimp only
      split at hr
      · rename_i m xs rest hd
        split at hr
        · rename_i c
          split at hr
          · rename_i hc
            simp only [Option.map_eq_some_iff] at hr
            obtain ⟨cs, h1, rfl⟩ := hr
            exact ⟨_, by simp only [if_pos hc, h1, Option.map_some], .set hx hx' (hids id (by simp [idsA]))⟩
          · cases hr
        · cases hr
      · rename_i w hd hne
        split at hr
        · rename_i hc
          simp only [Option.map_eq_some_iff] at hr
          obtain ⟨cs, h1, rfl⟩ := hr
          exact ⟨_, by simp only [if_pos hc, h1, Option.map_some], .set hx hx' (hids id (by simp [idsA]))⟩
        · cases hr
      · cases hr
    · cases hr
  · rename_i n id m sz i off hp
    have hq := e id (by simp [idsA])
    split at hr
    · rename_i e0 sz' xs fl hx
      have hx' : hlook h' id = some (.list e0 sz' xs false fl) := by rw [hq]; exact hx
      rw [hx']
      dsimp only
      split at hr
      · rename_i c hc
        simp only [Option.bind_eq_some_iff] at hr
        obtain ⟨vc, hvc, hr⟩ := hr
        split at hr
        · rename_i hcond
          simp only [Option.bind_eq_some_iff, Option.map_eq_some_iff] at hr
          obtain ⟨cs, h1, c', h2, rfl⟩ := hr
          refine ⟨_, ?_, .set hx hx' (hids id (by simp [idsA]))⟩
          simp only [hc, hvc, Option.bind_some, if_pos hcond, h1, h2, Option.map_some]
        · cases hr
      · cases hr
    · cases hr
  · cases hr

theorem aappend_congr {P : Program} {Z : Zeros} {h h' : Heap} {nid : Nat} {t : TypeId} {x y : AV} {ids : List Nat} {r : Res} (ex : ∀ id ∈ idsA x, hlook h' id = hlook h id) (ey : ∀ id ∈ idsA y, hlook h' id = hlook h id) (hids : ∀ id ∈ idsA x, id ∈ ids) (hn : nid ∈ ids)
    (hr : aappend P Z h nid t x y = some r) : ∃ r', aappend P Z h' nid t x y = some r' ∧ ResEq ids h h' r r' := by
  unfold aappend at hr ⊢
  simp only [Option.bind_eq_some_iff] at hr ⊢
  obtain ⟨et, ht, hr⟩ := hr
  split at hr
  · cases hr
  · rename_i hze
    split at hr
    · cases hr; exact ⟨_, ⟨et, ht, by rw [if_neg hze]⟩, .quiet⟩
    · rename_i id n
      have hq := ex id (by simp [idsA])
      split at hr
      · rename_i e0 sz xs f fl hlk
        split at hr
        · rename_i hl
          cases hr
          exact ⟨_, ⟨et, ht, by rw [if_neg hze]; simp only [hq, hlk, if_pos hl]⟩, .quiet⟩
        · cases hr
      · cases hr
    · rename_i hyn
      simp only [Option.bind_eq_some_iff] at hr
      obtain ⟨⟨sz, ys⟩, hs, hr⟩ := hr
      dsimp only at hr
      split at hr
      · rename_i hc
        cases hr
        refine ⟨_, ⟨et, ht, ?_⟩, .new hn⟩
        rw [if_neg hze]
        simp only [asrc_congr ey, freshSrc_congr ey, hs, Option.bind_some, if_pos hc]
      · cases hr
    · rename_i id n hyn
      have hq := ex id (by simp [idsA])
      split at hr
      · rename_i e0 sz' xs fl sz ys hlk hs
        split at hr
        · rename_i hc
          cases hr
          refine ⟨_, ⟨et, ht, ?_⟩, .set hlk (by rw [hq]; exact hlk) (hids id (by simp [idsA]))⟩
          rw [if_neg hze]
          simp only [hq, hlk, asrc_congr ey, freshSrc_congr ey, hs, if_pos hc]
        · cases hr
      · cases hr
    · cases hr

theorem map_ev_congr {env env' : List (Nat × AV)} {xs : List Operand} (h : ∀ x ∈ xs, ev env' x = ev env x) : xs.map (ev env') = xs.map (ev env) := List.map_congr_left h
theorem aparts_congr {env env' : List (Nat × AV)} {ps : Array (Nat × Operand)} (h : ∀ x ∈ ps.toList.map (·.2), ev env' x = ev env x) : aparts env' ps = aparts env ps := by
  unfold aparts
  refine List.map_congr_left fun q hq => ?_
  obtain ⟨i, x⟩ := q
  simp only
  rw [h x (List.mem_map.2 ⟨(i, x), hq, rfl⟩)]
theorem partIds_mem {ps : List (Nat × AV)} {q : Nat × AV} (h : q ∈ ps) {id : Nat} (hi : id ∈ idsA q.2) : id ∈ partIds ps := by
  induction ps with
  | nil => cases h
  | cons p r ih =>
    obtain ⟨i, v⟩ := p
    simp only [partIds, List.mem_append]
    rcases List.mem_cons.1 h with rfl | h
    · exact .inl hi
    · exact .inr (ih h)

theorem idsA_aslice {x : AV} : True := trivial

/-- TWO STATES THAT AGREE ON WHAT AN OPERATION LOOKS AT: the same value; the blocks that it turns turn alike -/
theorem astep_congr {P : Program} {Z : Zeros} {wr : Bool} {env env' : List (Nat × AV)} {h h' : Heap} {nid : Nat} {o : Oper} {r : Res} (ht : ∀ t ∈ tmpsOf o.op.operands.toList, look env' t = look env t) (hh : ∀ id ∈ lkOf env nid o, hlook h' id = hlook h id)
    (e : astep P Z wr env h nid o = some r) : ∃ r', astep P Z wr env' h' nid o = some r' ∧ ResEq (chOf env nid o) h h' r r' := by
  have hev := ev_congr ht
  clear ht
  unfold astep at e
  split at e
  · rename_i x ho
    rw [ho] at hev
    cases e
    refine ⟨_, by unfold astep; rw [ho]; dsimp only; rw [hev x (by simp [Op.operands])], .quiet⟩
  · rename_i x ho
    rw [ho] at hev
    cases e
    refine ⟨_, by unfold astep; rw [ho]; dsimp only; rw [hev x (by simp [Op.operands])], .quiet⟩
  · rename_i c x y ho
    rw [ho] at hev
    rw [← hev c (by simp [Op.operands]), ← hev x (by simp [Op.operands]), ← hev y (by simp [Op.operands])] at e
    unfold astep; rw [ho]; dsimp only
    split at e
    · cases e; exact ⟨_, rfl, .quiet⟩
    · cases e
  · rename_i t ho
    unfold astep; rw [ho]; dsimp only
    split at e
    · cases e
    · rename_i hz; cases e; exact ⟨_, by rw [if_neg hz], .new (by simp [chOf, ho])⟩
  · rename_i t x ho
    rw [ho] at hev
    rw [← hev x (by simp [Op.operands])] at e
    unfold astep; rw [ho]; dsimp only
    split at e
    · rename_i hz; cases e; exact ⟨_, by rw [if_pos hz], .new (by simp [chOf, ho])⟩
    · cases e
  · rename_i t x ho
    rw [ho] at hev
    have hx := hev x (by simp [Op.operands])
    have hc := vload_congr (P := P) (t := t) (fun id hi => hh id (by simpa [lkOf, ho] using hi))
    unfold astep; rw [ho]; dsimp only
    rw [hx, hc]
    simp only [Option.map_eq_some_iff] at e ⊢
    obtain ⟨v, e, rfl⟩ := e
    exact ⟨_, ⟨v, e, rfl⟩, .quiet⟩
  · rename_i t x y ho
    rw [ho] at hev
    have hx := hev x (by simp [Op.operands])
    have hy := hev y (by simp [Op.operands])
    unfold astep; rw [ho]; dsimp only
    rw [hx, hy]
    simp only [Option.map_eq_some_iff] at e ⊢
    obtain ⟨v, e, rfl⟩ := e
    obtain ⟨h1', e1, rq⟩ := vstore_congr (ids := chOf env nid o) (fun id hi => hh id (by simpa [lkOf, ho] using hi)) (fun id hi => by simpa [chOf, ho] using hi) e
    exact ⟨_, ⟨_, e1, rfl⟩, rq⟩
  · rename_i x ho
    rw [ho] at hev
    rw [← hev x (by simp [Op.operands])] at e
    unfold astep; rw [ho]; dsimp only
    split at e <;> first | (cases e; exact ⟨_, rfl, .quiet⟩) | cases e
  · rename_i op t x y t' ho
    rw [ho] at hev
    rw [← hev x (by simp [Op.operands]), ← hev y (by simp [Op.operands])] at e
    unfold astep; rw [ho]; dsimp only
    simp only [Option.map_eq_some_iff] at e ⊢
    obtain ⟨v, e, rfl⟩ := e
    exact ⟨_, ⟨v, e, rfl⟩, .quiet⟩
  · rename_i op t x ho
    rw [ho] at hev
    rw [← hev x (by simp [Op.operands])] at e
    unfold astep; rw [ho]; dsimp only
    simp only [Option.map_eq_some_iff] at e ⊢
    obtain ⟨v, e, rfl⟩ := e
    exact ⟨_, ⟨v, e, rfl⟩, .quiet⟩
  · rename_i src dst x ho
    rw [ho] at hev
    have hx := hev x (by simp [Op.operands])
    have hc := bytesV_congr (fun id hi => hh id (by simpa [lkOf, ho] using hi))
    rw [← hx] at e
    unfold astep; rw [ho]; dsimp only
    split at e
    · split at e
      · cases e; exact ⟨_, rfl, .quiet⟩
      · cases e
    · split at e
      · rename_i hcc
        rw [if_pos hcc]
        rw [hx, ← hc, ← hx] at e
        simp only [Option.map_eq_some_iff] at e ⊢
        obtain ⟨s, e, rfl⟩ := e
        exact ⟨_, ⟨s, e, rfl⟩, .quiet⟩
      · cases e
  · rename_i f first cap ho
    rw [ho] at hev
    cases e
    unfold astep; rw [ho]; dsimp only
    rw [map_ev_congr (xs := first.toList) (fun x hx => hev x (by simp [Op.operands]; left; simpa using hx)), map_ev_congr (xs := cap.toList) (fun x hx => hev x (by simp [Op.operands]; right; simpa using hx))]
    exact ⟨_, rfl, .quiet⟩
  · rename_i s x f ho
    rw [ho] at hev
    rw [← hev x (by simp [Op.operands])] at e
    unfold astep; rw [ho]; dsimp only
    simp only [Option.bind_eq_some_iff] at e ⊢
    obtain ⟨⟨fo, ft⟩, hf, e⟩ := e
    dsimp only at e
    split at e
    · cases e
    · rename_i hp
      split at e
      · cases e; refine ⟨_, ⟨_, hf, by dsimp only; rw [if_neg hp]⟩, .quiet⟩
      · cases e; refine ⟨_, ⟨_, hf, by dsimp only; rw [if_neg hp]⟩, .quiet⟩
      · simp only [Option.bind_eq_some_iff, Option.map_eq_some_iff] at e
        obtain ⟨cs, h1, c2, h2, rfl⟩ := e
        refine ⟨_, ⟨_, hf, by dsimp only; rw [if_neg hp]; simp only [h1, h2, Option.bind_some, Option.map_some]⟩, .quiet⟩
      · cases e
  · rename_i s x f ho
    rw [ho] at hev
    rw [← hev x (by simp [Op.operands])] at e
    unfold astep; rw [ho]; dsimp only
    simp only [Option.bind_eq_some_iff] at e ⊢
    obtain ⟨⟨fo, ft⟩, hf, e⟩ := e
    dsimp only at e
    split at e
    · simp only [Option.bind_eq_some_iff, Option.map_eq_some_iff] at e
      obtain ⟨p, h1, v, ⟨cs, h2, h3⟩, rfl⟩ := e
      exact ⟨_, ⟨_, hf, by dsimp only; simp only [h1, h2, h3, Option.bind_some, Option.map_some]⟩, .quiet⟩
    · cases e
  · rename_i t x ix ho
    rw [ho] at hev
    have hx := hev x (by simp [Op.operands])
    have hi := hev ix (by simp [Op.operands])
    have hk : ∀ id ∈ idsA (ev env x), hlook h' id = hlook h id := fun id hi => hh id (by simpa [lkOf, ho] using hi)
    unfold astep; rw [ho]; dsimp only
    rw [hx, hi]
    split at e
    · split at e
      · rename_i hp
        simp only [Option.map_eq_some_iff] at e
        obtain ⟨v, h1, rfl⟩ := e
        exact ⟨_, by rw [if_pos hp, h1]; rfl, .quiet⟩
      · cases e
    · rename_i id n k i ex ei
      rw [hk id (by rw [ex]; simp [idsA])]
      split at e
      · split at e
        · rename_i hp
          simp only [Option.map_eq_some_iff] at e
          obtain ⟨v, h1, rfl⟩ := e
          exact ⟨_, by rw [if_pos hp, h1]; rfl, .quiet⟩
        · cases e
      · cases e
    · split at e
      · split at e
        · rename_i hp; cases e; exact ⟨_, by rw [if_pos hp], .quiet⟩
        · cases e
      · cases e
    · cases e
  · rename_i t x ix ho
    rw [ho] at hev
    have hx := hev x (by simp [Op.operands])
    have hi := hev ix (by simp [Op.operands])
    unfold astep; rw [ho]; dsimp only
    rw [hx, hi]
    split at e
    · split at e
      · split at e
        · rename_i hp
          simp only [Option.map_eq_some_iff] at e
          obtain ⟨v, h1, rfl⟩ := e
          exact ⟨_, by rw [if_pos hp, h1]; rfl, .quiet⟩
        · cases e
      · cases e
    · split at e
      · rename_i hp
        simp only [Option.map_eq_some_iff] at e
        obtain ⟨v, h1, rfl⟩ := e
        exact ⟨_, by rw [if_pos hp, h1]; rfl, .quiet⟩
      · cases e
    · cases e
  · rename_i t x lo hi ho
    rw [ho] at hev
    have hx := hev x (by simp [Op.operands])
    have hl : lo.map (ev env') = lo.map (ev env) := by
      cases lo with
      | none => rfl
      | some l => simp only [Option.map_some]; rw [hev l (by simp [Op.operands])]
    have hu : hi.map (ev env') = hi.map (ev env) := by
      cases hi with
      | none => rfl
      | some l => simp only [Option.map_some]; rw [hev l (by simp [Op.operands])]
    unfold astep; rw [ho]; dsimp only
    rw [hx, hl, hu]
    exact aslice_congr (fun id hi => hh id (by simpa [lkOf, ho] using hi)) (fun id hi => by simpa [chOf, ho] using hi) e
  · rename_i t parts ho
    rw [ho] at hev
    have hp := aparts_congr (ps := parts) (fun x hx => hev x (by simpa [Op.operands] using hx))
    unfold astep; rw [ho]; dsimp only
    rw [hp]
    split at e
    · cases e
    · rename_i hz
      rw [if_neg hz]
      simp only [Option.bind_eq_some_iff, Option.map_eq_some_iff] at e ⊢
      obtain ⟨pl, h1, cs, h2, rfl⟩ := e
      exact ⟨_, ⟨pl, h1, cs, h2, rfl⟩, .quiet⟩
  · rename_i t len parts ho
    rw [ho] at hev
    have hp := aparts_congr (ps := parts) (fun x hx => hev x (by simpa [Op.operands] using hx))
    have hk : ∀ id ∈ partIds (aparts env parts), hlook h' id = hlook h id := fun id hi => hh id (by simp only [lkOf, ho]; exact List.mem_cons_of_mem _ hi)
    have hfr : ((aparts env parts).all fun q => freshAs h' (cellsOf q.2)) = ((aparts env parts).all fun q => freshAs h (cellsOf q.2)) := by
      have : ∀ q ∈ aparts env parts, freshAs h' (cellsOf q.2) = freshAs h (cellsOf q.2) := fun q hq => freshAs_congr _ fun id hi => hk id (partIds_mem hq (idsAs_cellsOf _ id hi))
      revert this
      generalize aparts env parts = l
      intro this
      induction l with
      | nil => rfl
      | cons q l ih => simp only [List.all_cons]; rw [this q (by simp), ih (fun q hq => this q (by simp [hq]))]
    unfold astep; rw [ho]; dsimp only
    rw [hp]
    simp only [aelems_congr _ _ hk, hfr]
    simp only [Option.bind_eq_some_iff] at e ⊢
    obtain ⟨et, h1, sz, h2, e⟩ := e
    split at e
    · rename_i hc
      simp only [Option.map_eq_some_iff] at e
      obtain ⟨xs, h3, rfl⟩ := e
      refine ⟨_, ⟨et, h1, sz, h2, by rw [if_pos hc, h3]; rfl⟩, ?_⟩
      have pw := frzParts_ptw (aparts env parts)
      refine ⟨rfl, rfl, fun id e => ?_, fun id hi => ?_, fun id hi => ?_⟩
      · simp only [hlook]
        split
        · rfl
        · exact pw.same e
      · simp only [chOf, ho, List.mem_cons, not_or] at hi
        simp only [hlook]
        rw [if_neg (Ne.symm hi.1)]
        exact pw.out hi.2
      · simp only [chOf, ho, List.mem_cons, not_or] at hi
        simp only [hlook]
        rw [if_neg (Ne.symm hi.1)]
        exact pw.out hi.2
    · cases e
  · rename_i t x y ho
    rw [ho] at hev
    have hx := hev x (by simp [Op.operands])
    have hy := hev y (by simp [Op.operands])
    unfold astep; rw [ho]; dsimp only
    rw [hx, hy]
    simp only [Option.bind_eq_some_iff] at e ⊢
    obtain ⟨et, h1, e⟩ := e
    split at e
    · rename_i k n k' m sz e1 e2 e3
      split at e
      · cases e
      · rename_i hc
        cases e
        refine ⟨_, ⟨et, h1, ?_⟩, .new (by simp [chOf, ho])⟩
        rw [e1, e2, e3]; dsimp only; rw [if_neg hc]
    · cases e
  · rename_i x i ho
    rw [ho] at hev
    rw [← hev x (by simp [Op.operands])] at e
    unfold astep; rw [ho]; dsimp only
    split at e
    · simp only [Option.map_eq_some_iff] at e
      obtain ⟨v, h1, rfl⟩ := e
      exact ⟨_, by rw [h1]; rfl, .quiet⟩
    · cases e
  · rename_i args argTypes ho
    rw [ho] at hev
    have ha : ∀ x ∈ args.toList, ev env' x = ev env x := fun x hx => hev x (by simp [Op.operands, Call.operands]; simpa using hx)
    unfold astep; rw [ho]; dsimp only
    split at e
    · rename_i x t e1 e2
      rw [e1] at ha
      rw [ha x (by simp)]
      simp only [Option.map_eq_some_iff] at e
      obtain ⟨v, h1, rfl⟩ := e
      have h1' : alen P h' t (ev env x) = some v := by rw [← h1]; unfold alen; rfl
      exact ⟨_, by rw [h1']; rfl, .quiet⟩
    · cases e
  · rename_i args argTypes ho
    rw [ho] at hev
    have ha : ∀ x ∈ args.toList, ev env' x = ev env x := fun x hx => hev x (by simp [Op.operands, Call.operands]; simpa using hx)
    have hk : ∀ x ∈ args.toList, ∀ id ∈ idsA (ev env x), hlook h' id = hlook h id := fun x hx id hi => hh id (by simp only [lkOf, ho]; exact List.mem_cons_of_mem _ (mem_opIds hx hi))
    have hc : ∀ x ∈ args.toList, ∀ id ∈ idsA (ev env x), id ∈ chOf env nid o := fun x hx id hi => by simp only [chOf, ho]; exact List.mem_cons_of_mem _ (mem_opIds hx hi)
    have hn : nid ∈ chOf env nid o := by simp [chOf, ho]
    unfold astep; rw [ho]; dsimp only
    split at e
    · rename_i x y t t' e1 e2
      rw [e1] at ha hk hc
      rw [ha x (by simp), ha y (by simp)]
      split at e
      · rename_i ht
        rw [if_pos ht]
        exact aappend_congr (hk x (by simp)) (hk y (by simp)) (hc x (by simp)) hn e
      · cases e
    · cases e
  · rename_i args argTypes ho
    rw [ho] at hev
    have ha : ∀ x ∈ args.toList, ev env' x = ev env x := fun x hx => hev x (by simp [Op.operands, Call.operands]; simpa using hx)
    unfold astep; rw [ho]; dsimp only
    split at e
    · rename_i x l e1
      rw [e1] at ha
      rw [ha x (by simp), map_ev_congr (fun y hy => ha y (by simp [hy]))]
      simp only [Option.map_eq_some_iff] at e
      obtain ⟨v, h1, rfl⟩ := e
      exact ⟨_, by rw [h1]; rfl, .quiet⟩
    · cases e
  · rename_i args argTypes ho
    rw [ho] at hev
    have ha : ∀ x ∈ args.toList, ev env' x = ev env x := fun x hx => hev x (by simp [Op.operands, Call.operands]; simpa using hx)
    unfold astep; rw [ho]; dsimp only
    split at e
    · rename_i x l e1
      rw [e1] at ha
      rw [ha x (by simp), map_ev_congr (fun y hy => ha y (by simp [hy]))]
      simp only [Option.map_eq_some_iff] at e
      obtain ⟨v, h1, rfl⟩ := e
      exact ⟨_, by rw [h1]; rfl, .quiet⟩
    · cases e
  · cases e

end Go.Abs

namespace Go.Abs
open Go Go.RowKit

section
variable {P : Program} {Z : Zeros} {wr rd : Bool} {N : Nat} {D : Nat → Nat → Prop} {I : Nat → Prop} {g : Gh} {w : World} {h : Heap} {a : Act}

/-- one operation: the state behind it, the blocks that it looked at, those that it turned -/
inductive StepD (P : Program) (Z : Zeros) (wr : Bool) (o : Oper) (nid : Nat) (s : St) : St → List Nat → List Nat → Prop
  | plain (q : Res) (e : astep P Z wr s.env s.heap nid o = some q) (hvc : q.vc) : StepD P Z wr o nid s ⟨put s.env o.dst q.v, q.heap, s.nx⟩ (lkOf s.env nid o) (chOf s.env nid o)
  | pure {c : Call} {x : Operand} {f : FuncId} {first cap : List AV} {pargs : List PV} {rv : PV} (ho : o.op = .call c) (hc : c.callee = .value x) (hev : ev s.env x = .fn f first cap)
      (h1 : toPs s.heap (first ++ c.args.toList.map (ev s.env) ++ cap) = some pargs) (h2 : APure P false f pargs rv) : StepD P Z wr o nid s ⟨put s.env o.dst (ofP rv), s.heap, s.nx⟩ (idsAs (first ++ c.args.toList.map (ev s.env) ++ cap)) []
  | share {c : Call} {x : Operand} {f : FuncId} {first cap : List AV} {pargs : List PV} {rv : PV} (ho : o.op = .call c) (hc : c.callee = .value x) (hev : ev s.env x = .fn f first cap)
      (h1 : toPs s.heap (first ++ c.args.toList.map (ev s.env) ++ cap) = some pargs) (h2 : APure P true f pargs rv) :
      StepD P Z wr o nid s ⟨put s.env o.dst (ofP rv), frzs s.heap (first ++ c.args.toList.map (ev s.env) ++ cap), s.nx⟩ (idsAs (first ++ c.args.toList.map (ev s.env) ++ cap)) (idsAs (first ++ c.args.toList.map (ev s.env) ++ cap))
  | new {c : Call} {x : Operand} {f : FuncId} {first cap : List AV} {sh : Bool} {pargs : List PV} {rv : AV} {bs : List ABlk} (ho : o.op = .call c) (hc : c.callee = .value x) (hev : ev s.env x = .fn f first cap)
      (h1 : toPs s.heap (first ++ c.args.toList.map (ev s.env) ++ cap) = some pargs) (hp : plainA rv = true) (hl : bs.length ≤ 1) (h2 : ANew P sh f pargs rv bs) :
      StepD P Z wr o nid s ⟨put s.env o.dst (shA nid rv), addB nid bs (bif sh then frzs s.heap (first ++ c.args.toList.map (ev s.env) ++ cap) else s.heap), s.nx⟩ (nid :: idsAs (first ++ c.args.toList.map (ev s.env) ++ cap)) (nid :: (bif sh then idsAs (first ++ c.args.toList.map (ev s.env) ++ cap) else []))

theorem call_exec {o : Oper} {c : Call} {x : Operand} {s : St} {f : FuncId} {first cap : List AV} (ho : o.op = .call c) (hcx : c.callee = .value x) (hev : ev s.env x = .fn f first cap) (ok : StOk D I g w a s) (hp : pfun P f = true) :
    ∃ vals : Array Value, (execOp a.eval o).run P w = .ok (.enter f vals) w ∧ RAEs I g w (first ++ c.args.toList.map (ev s.env) ++ cap) vals.toList := by
  obtain ⟨hr, hon⟩ := ev_rep (nx := s.nx) ok x
  rw [hev] at hr hon
  simp only [RA, AV.on] at hr hon
  obtain ⟨u1, u2, hex, hr1, hr2⟩ := hr
  simp only [List.cons.injEq, and_true] at hex
  obtain ⟨hra, hoa⟩ := evs_rep (nx := s.nx) ok c.args.toList
  refine ⟨u1 ++ c.args.map a.eval ++ u2, ?_, ?_⟩
  · simp only [execOp, ho, resolve, hcx, Sem.run_bind, hex, Deferred.ofValue, Sem.run_pure, Result.andThen_ok, invoke]
    exact pfun_run hp _ _
  · have happ : ∀ {xs ys : List AV} {us vs : List Value}, RAEs I g w xs us → RAEs I g w ys vs → RAEs I g w (xs ++ ys) (us ++ vs) := by
      intro xs
      induction xs with
      | nil => intro ys us vs h k; simp only [RAEs] at h; subst h; simpa using k
      | cons c cs ih => intro ys us vs h k; simp only [RAEs, List.cons_append] at h ⊢; obtain ⟨v, v2, rfl, h1, h2⟩ := h; exact ⟨v, _, rfl, h1, ih h2 k⟩
    simpa using happ (happ hr1 (by simpa using hra)) hr2

theorem StepD.sound (hz : ZOk P Z) {o : Oper} {nid : Nat} {s s' : St} {lk ch : List Nat} (st : StepD P Z wr o nid s s' lk ch) {r : Option Nat} {n : Nat} (hd : ∀ d, o.dst = some d → d < a.tmps.size) (ok : StOk D I g w a s) (hn : ∀ m, ¬ D nid m)
    {next : Act → World → Prop} {Q : Exit → Act → World → Prop} (hnext : ∀ v w' D' I' g', StOk D' I' g' w' (a.put o.dst v) s' → Fr I (Owned g s.heap) w I' (Owned g' s'.heap) w' → Gh.kp g g' → (∀ id m, D' id m → (∃ m', D id m') ∨ id = nid) → next (a.put o.dst v) w') :
    o.wpIn (wideR r) n P a w next Q := by
  cases st with
  | plain q e hvc =>
    have hdef : ∀ c, o.op ≠ .defer c := by
      intro c' h
      unfold astep at e
      rw [h] at e
      simp at e
    obtain ⟨v, w', D', I', g', hrun, t, hr, hon, hb⟩ := astep_sound (nx := s.nx) hz e hvc ok hn
    have st := ok.step (nx := s.nx) (d := o.dst) t hd hr hon
    have hfin := hnext v w' D' I' g' st t.fr t.gk hb
    refine ⟨fun f _ => trivial, ?_⟩
    rw [Oper.semAt_eq _ _ _ hdef]
    rcases hrun with hrun | ⟨hrun, rfl⟩
    · rw [hrun]; exact hfin
    · rw [hrun]; exact hfin
  | pure ho hc hev h1 h2 =>
    obtain ⟨vals, hex, hR⟩ := call_exec ho hc hev ok h2.1
    obtain ⟨I1, t1, hRp⟩ := lend ok.heap ok.small h1 hR
    refine ⟨fun f _ => trivial, ?_⟩
    rw [Oper.semAt_eq _ _ _ (fun c' h => by rw [ho] at h; cases h), hex]
    refine ⟨fun hdep => by simp [wideR] at hdep, callsIn_wideR.2 ((h2.2 I1 w _ t1.small hRp).mono ?_)⟩
    rintro e w' ⟨v, J, rfl, hJ, hRv, hbel, hcf⟩
    have t2 := Tr.called ok.heap ok.small hbel hcf (J := J) (fun b hb => ⟨(hJ b hb).1, (hJ b hb).2.elim .inl (fun h => by simp at h)⟩)
    obtain ⟨hra', hon'⟩ := ofP_rep (g := g) hRv
    exact hnext v w' D _ g (ok.step (nx := s.nx) (d := o.dst) t2 hd (RA.mono' (fun b hb => .inr hb) hra') (hon' _)) t2.fr t2.gk (fun _ m h => .inl ⟨m, h⟩)
  | share ho hc hev h1 h2 =>
    obtain ⟨vals, hex, hR⟩ := call_exec ho hc hev ok h2.1
    obtain ⟨I1, t1, hRp⟩ := lend ok.heap ok.small h1 hR
    refine ⟨fun f _ => trivial, ?_⟩
    rw [Oper.semAt_eq _ _ _ (fun c' h => by rw [ho] at h; cases h), hex]
    refine ⟨fun hdep => by simp [wideR] at hdep, callsIn_wideR.2 ((h2.2 I1 w _ t1.small hRp).mono ?_)⟩
    rintro e w' ⟨v, J, rfl, hJ, hRv, hbel, hcf⟩
    have t2 := Tr.called t1.heap t1.small hbel hcf (J := J) (fun b hb => ⟨(hJ b hb).1, (hJ b hb).2.elim .inl (fun h => .inr h.2)⟩)
    have t3 := t1.trans t2
    obtain ⟨hra', hon'⟩ := ofP_rep (g := g) hRv
    exact hnext v w' D _ g (ok.step (nx := s.nx) (d := o.dst) t3 hd (RA.mono' (fun b hb => .inr hb) hra') (hon' _)) t3.fr t3.gk (fun _ m h => .inl ⟨m, h⟩)
  | @new c x f first cap sh pargs rv bs ho hc hev h1 hp hl h2 =>
    obtain ⟨vals, hex, hR⟩ := call_exec ho hc hev ok h2.1
    obtain ⟨I1, t1, hRp⟩ := lend ok.heap ok.small h1 hR
    refine ⟨fun f _ => trivial, ?_⟩
    rw [Oper.semAt_eq _ _ _ (fun c' h => by rw [ho] at h; cases h), hex]
    refine ⟨fun hdep => by simp [wideR] at hdep, callsIn_wideR.2 ((h2.2 I1 w _ t1.small hRp).mono ?_)⟩
    rintro e w' ⟨v, J, gc, rfl, hJ, hRv, hov, nk, hbel, hcf⟩
    have hnid : ∀ id m, nid ≤ id → id < nid + bs.length → ¬ D id m := fun id m h1 h2 => by
      have : id = nid := by omega
      rw [this]; exact hn m
    have hbD : ∀ id m, adoptD D nid bs id m → (∃ m', D id m') ∨ id = nid := by
      rintro id m (h | ⟨hle, y, hy, _⟩)
      · exact .inl ⟨m, h⟩
      · have := (List.getElem?_eq_some_iff.1 hy).1
        right; omega
    have hon' : (shA nid rv).on (adoptD D nid bs) := shA_on (fun id m hd => .inr ⟨Nat.le_add_right _ _, by rw [show nid + id - nid = id from by omega]; exact hd⟩) rv hp hov
    cases sh with
    | false =>
      have t2 := Tr.adopt ok.heap ok.small hbel hcf (J := J) (fun b hb => ⟨(hJ b hb).1, (hJ b hb).2.elim .inl (fun h => by simp at h)⟩) nk hnid
      have hra := shA_rep (I' := fun b => I b ∨ J b) (g1 := g) (nx := nid) (fun b hb => .inr hb) rfl rv _ hp hov hRv
      exact hnext v w' _ _ _ (ok.step (nx := s.nx) (d := o.dst) t2 hd hra hon') t2.fr t2.gk hbD
    | true =>
      have t2 := Tr.adopt t1.heap t1.small hbel hcf (J := J) (fun b hb => ⟨(hJ b hb).1, (hJ b hb).2.elim .inl (fun h => .inr h.2)⟩) nk hnid
      have t3 := t1.trans t2
      have hra := shA_rep (I' := fun b => I1 b ∨ J b) (g1 := g) (nx := nid) (fun b hb => .inr hb) rfl rv _ hp hov hRv
      exact hnext v w' _ _ _ (ok.step (nx := s.nx) (d := o.dst) t3 hd hra hon') t3.fr t3.gk hbD

theorem addB_out {bs : List ABlk} {nid : Nat} (hl : bs.length ≤ 1) {h : Heap} {id : Nat} (hne : id ≠ nid) : hlook (addB nid bs h) id = hlook h id := by
  rw [hlook_addB, if_neg (by omega)]
theorem addB_same {bs : List ABlk} {nid : Nat} {h h' : Heap} {id : Nat} (e : hlook h' id = hlook h id) : hlook (addB nid bs h') id = hlook (addB nid bs h) id := by
  rw [hlook_addB, hlook_addB, e]

theorem opIds_congr {env env' : List (Nat × AV)} : ∀ {xs : List Operand}, (∀ x ∈ xs, ev env' x = ev env x) → opIds env' xs = opIds env xs
  | [], _ => rfl
  | x :: xs, h => by simp only [opIds]; rw [h x (by simp), opIds_congr fun y hy => h y (by simp [hy])]

theorem lkOf_congr {env env' : List (Nat × AV)} {o : Oper} (nid : Nat) (ht : ∀ t ∈ tmpsOf o.op.operands.toList, look env' t = look env t) : lkOf env' nid o = lkOf env nid o ∧ chOf env' nid o = chOf env nid o := by
  have hev := ev_congr ht
  clear ht
  unfold lkOf chOf
  cases ho : o.op <;> rw [ho] at hev <;> try exact ⟨rfl, rfl⟩
  all_goals try (simp only; rw [hev _ (by simp [Op.operands])]; simp)
  · rename_i t len parts
    have hp := aparts_congr (ps := parts) (fun x hx => hev x (by simpa [Op.operands] using hx))
    simp only [hp, and_self]
  · rename_i c
    obtain ⟨cal, args, argTypes⟩ := c
    cases cal with
    | builtin b =>
      cases b <;> simp only [and_self]
      rw [opIds_congr (xs := args.toList) fun x hx => hev x (by simp [Op.operands, Call.operands]; simpa using hx)]
    | _ => exact ⟨rfl, rfl⟩

theorem StepD.congr {o : Oper} {nid : Nat} {s s' u : St} {lk ch : List Nat} (st : StepD P Z wr o nid s s' lk ch) (ht : ∀ t ∈ tmpsOf o.op.operands.toList, look u.env t = look s.env t) (hh : ∀ id ∈ lk, hlook u.heap id = hlook s.heap id) :
    ∃ v h', s'.env = put s.env o.dst v ∧ StepD P Z wr o nid u ⟨put u.env o.dst v, h', u.nx⟩ lk ch ∧ (∀ id, hlook u.heap id = hlook s.heap id → hlook h' id = hlook s'.heap id) ∧ (∀ id, id ∉ ch → hlook h' id = hlook u.heap id) ∧ (∀ id, id ∉ ch → hlook s'.heap id = hlook s.heap id) := by
  have hev := ev_congr ht
  cases st with
  | plain q e hvc =>
    obtain ⟨r', e', rq⟩ := astep_congr ht hh e
    obtain ⟨l1, l2⟩ := lkOf_congr nid ht
    refine ⟨q.v, r'.heap, rfl, ?_, rq.same, rq.out', rq.out⟩
    have := StepD.plain (P := P) (Z := Z) (wr := wr) (nid := nid) (s := u) r' e' (by rw [rq.vc]; exact hvc)
    rwa [l1, l2, rq.v] at this
  | @pure c x f first cap pargs rv ho hc hev' h1 h2 =>
    rw [ho] at hev
    have ex : ev u.env x = ev s.env x := hev x (by simp [Op.operands, Call.operands, hc])
    have ea : c.args.toList.map (ev u.env) = c.args.toList.map (ev s.env) := map_ev_congr fun y hy => hev y (by simp [Op.operands, Call.operands]; right; simpa using hy)
    refine ⟨ofP rv, u.heap, rfl, ?_, fun id e => e, fun id _ => rfl, fun id _ => rfl⟩
    have := StepD.pure (P := P) (Z := Z) (wr := wr) (nid := nid) (s := u) ho hc (ex.trans hev') (by rw [ea, toPs_congr _ hh]; exact h1) h2
    rwa [ea] at this
  | @share c x f first cap pargs rv ho hc hev' h1 h2 =>
    rw [ho] at hev
    have ex : ev u.env x = ev s.env x := hev x (by simp [Op.operands, Call.operands, hc])
    have ea : c.args.toList.map (ev u.env) = c.args.toList.map (ev s.env) := map_ev_congr fun y hy => hev y (by simp [Op.operands, Call.operands]; right; simpa using hy)
    have pw := frzs_ptw (first ++ c.args.toList.map (ev s.env) ++ cap)
    refine ⟨ofP rv, frzs u.heap (first ++ c.args.toList.map (ev s.env) ++ cap), rfl, ?_, fun id e => pw.same e, fun id hi => pw.out hi, fun id hi => pw.out hi⟩
    have := StepD.share (P := P) (Z := Z) (wr := wr) (nid := nid) (s := u) ho hc (ex.trans hev') (by rw [ea, toPs_congr _ hh]; exact h1) h2
    rwa [ea] at this
  | @new c x f first cap sh pargs rv bs ho hc hev' h1 hp hl h2 =>
    rw [ho] at hev
    have ex : ev u.env x = ev s.env x := hev x (by simp [Op.operands, Call.operands, hc])
    have ea : c.args.toList.map (ev u.env) = c.args.toList.map (ev s.env) := map_ev_congr fun y hy => hev y (by simp [Op.operands, Call.operands]; right; simpa using hy)
    have pw := frzs_ptw (first ++ c.args.toList.map (ev s.env) ++ cap)
    have hh' : ∀ id ∈ idsAs (first ++ c.args.toList.map (ev s.env) ++ cap), hlook u.heap id = hlook s.heap id := fun id hi => hh id (List.mem_cons_of_mem _ hi)
    have this := StepD.new (P := P) (Z := Z) (wr := wr) (nid := nid) (s := u) ho hc (ex.trans hev') (by rw [ea, toPs_congr _ hh']; exact h1) hp hl h2
    rw [ea] at this
    refine ⟨shA nid rv, _, rfl, this, fun id e => ?_, fun id hi => ?_, fun id hi => ?_⟩
    · cases sh with
      | false => exact addB_same e
      | true => exact addB_same (pw.same e)
    · simp only [List.mem_cons, not_or] at hi
      rw [addB_out hl hi.1]
      cases sh with
      | false => rfl
      | true => exact pw.out hi.2
    · simp only [List.mem_cons, not_or] at hi
      rw [addB_out hl hi.1]
      cases sh with
      | false => rfl
      | true => exact pw.out hi.2

/-- one operation, its guard with it -/
def StepG (P : Program) (Z : Zeros) (wr : Bool) (ops : Array Oper) (o : Oper) (nid : Nat) (s s' : St) (lk ch : List Nat) : Prop :=
  match o.guard with
  | none => StepD P Z wr o nid s s' lk ch
  | some (j, want) => ∃ t b, guardOf ops s.env j = some (t, b) ∧ ((b = want ∧ StepD P Z wr o nid { s with env := (t, .p (.bool b)) :: s.env } s' lk ch) ∨
      (b = (!want) ∧ s' = { s with env := put ((t, .p (.bool b)) :: s.env) o.dst .undef } ∧ lk = [] ∧ ch = []))

def gtmp (ops : Array Oper) (o : Oper) : List Nat :=
  match o.guard with
  | some (j, _) => ((ops[j]?).bind (·.dst)).toList
  | none => []

theorem guardOf_look {ops : Array Oper} {env : List (Nat × AV)} {j t : Nat} {b : Bool} (h : guardOf ops env j = some (t, b)) : ((ops[j]?).bind (·.dst)) = some t ∧ look env t = .p (.bool b) := by
  unfold guardOf at h
  split at h
  · rename_i t' ht
    split at h
    · rename_i b' hb; cases h; exact ⟨ht, hb⟩
    · cases h
  · cases h

theorem look_put (env : List (Nat × AV)) (d : Option Nat) (v : AV) (t : Nat) : look (put env d v) t = if d = some t then v else look env t := by
  cases d with
  | none => simp [put]
  | some d => simp only [put, look, Option.some.injEq]

theorem look_known {env : List (Nat × AV)} {t0 : Nat} {v : AV} (h : look env t0 = v) (t : Nat) : look ((t0, v) :: env) t = look env t := by
  simp only [look]
  split
  · rename_i e; subst e; exact h.symm
  · rfl

theorem StepG.run (hz : ZOk P Z) {ops : Array Oper} {o : Oper} {j nid : Nat} {s s' u : St} {lk ch : List Nat} (st : StepG P Z wr ops o nid s s' lk ch) (hj : ops[j]? = some o) (ht : ∀ t ∈ tmpsOf o.op.operands.toList, look u.env t = look s.env t) (hgt : ∀ t ∈ gtmp ops o, look u.env t = look s.env t)
    (hh : ∀ id ∈ lk, hlook u.heap id = hlook s.heap id) {r : Option Nat} {n : Nat} (hd : ∀ d, o.dst = some d → d < a.tmps.size) (ok : StOk D I g w a u) (hn : ∀ m, ¬ D nid m) {next : Act → World → Prop} {Q : Exit → Act → World → Prop}
    (hnext : ∀ a' w' u' D' I' g' v, (∀ t, look u'.env t = if o.dst = some t then v else look u.env t) → (∀ t, look s'.env t = if o.dst = some t then v else look s.env t) → (∀ id, hlook u.heap id = hlook s.heap id → hlook u'.heap id = hlook s'.heap id) → (∀ id, id ∉ ch → hlook u'.heap id = hlook u.heap id) →
      a'.tmps.size = a.tmps.size → a'.defers = a.defers → StOk D' I' g' w' a' u' → Fr I (Owned g u.heap) w I' (Owned g' u'.heap) w' → Gh.kp g g' → (∀ id m, D' id m → (∃ m', D id m') ∨ id = nid) → next a' w') : wpOpIn (wideR r) n P ops Q j next a w := by
  unfold wpOpIn
  rw [hj]
  simp only
  unfold StepG at st
  split at st
  · rename_i hg
    rw [if_pos (by simp [Region.wanted, hg])]
    obtain ⟨v, h', e1, st', c1, c2, _⟩ := st.congr ht hh
    refine st'.sound hz hd ok hn fun v' w' D' I' g' ok' fr kp hb => hnext _ w' _ D' I' g' v (fun t => look_put _ _ _ t) (fun t => by rw [e1]; exact look_put _ _ _ t) c1 c2 (put_size _ _ _) (put_defers _ _ _) ok' fr kp hb
  · rename_i jg want hg
    obtain ⟨t0, b, hgo, hst⟩ := st
    obtain ⟨hdst, hl⟩ := guardOf_look hgo
    have hlu : look u.env t0 = .p (.bool b) := by rw [hgt t0 (by simp [gtmp, hg, hdst]), hl]
    have hgo' : guardOf ops u.env jg = some (t0, b) := by unfold guardOf; rw [hdst]; simp only [hlu]
    obtain ⟨hy, _⟩ := guardOf_rep ok hgo'
    have hw : Region.wanted o (yielded ops a.tmps) = (b == want) := by
      simp only [Region.wanted, hg, hy]
      cases b <;> cases want <;> rfl
    have okk := ok.known hlu
    rcases hst with ⟨rfl, st⟩ | ⟨hb, rfl, rfl, rfl⟩
    · rw [if_pos (by rw [hw]; simp)]
      obtain ⟨v, h', e1, st', c1, c2, _⟩ := st.congr (u := { u with env := (t0, .p (.bool b)) :: u.env }) (fun t h => by rw [look_known hlu, look_known hl]; exact ht t h) hh
      refine st'.sound hz hd okk hn fun v' w' D' I' g' ok' fr kp hb => hnext _ w' _ D' I' g' v (fun t => (look_put _ _ _ t).trans (by rw [look_known hlu])) (fun t => by rw [e1]; exact (look_put _ _ _ t).trans (by rw [look_known hl])) c1 c2 (put_size _ _ _) (put_defers _ _ _) ok' fr kp hb
    · rw [if_neg (by rw [hw, hb]; cases want <;> simp)]
      refine ⟨fun f _ => trivial, ?_⟩
      have okp := okk.step (nx := u.nx) (d := o.dst) (av := .undef) (v := undef) (Tr.refl okk.heap okk.small) hd (by simp only [RA]; exact ⟨_, rfl⟩) (by simp only [AV.on])
      exact hnext _ w { u with env := put ((t0, .p (.bool b)) :: u.env) o.dst .undef } D I g .undef (fun t => (look_put _ _ _ t).trans (by rw [look_known hlu])) (fun t => (look_put _ _ _ t).trans (by rw [look_known hl])) (fun id e => e) (fun id _ => rfl) (put_size _ _ _) (put_defers _ _ _) okp (Fr.refl _ _ _) (Gh.kp.refl _) (fun _ m h => .inl ⟨m, h⟩)

theorem StepG.keeps {ops : Array Oper} {o : Oper} {nid : Nat} {s s' : St} {lk ch : List Nat} (st : StepG P Z wr ops o nid s s' lk ch) :
    (∀ t, o.dst ≠ some t → look s'.env t = look s.env t) ∧ (∀ id, id ∉ ch → hlook s'.heap id = hlook s.heap id) := by
  unfold StepG at st
  split at st
  · obtain ⟨v, h', e1, _, _, _, c3⟩ := st.congr (u := s) (fun _ _ => rfl) (fun _ _ => rfl)
    exact ⟨fun t ht => by rw [e1, look_put, if_neg ht], c3⟩
  · obtain ⟨t0, b, hgo, hst⟩ := st
    obtain ⟨_, hl⟩ := guardOf_look hgo
    rcases hst with ⟨rfl, st⟩ | ⟨hb, rfl, rfl, rfl⟩
    · obtain ⟨v, h', e1, _, _, _, c3⟩ := st.congr (u := { s with env := (t0, .p (.bool b)) :: s.env }) (fun _ _ => rfl) (fun _ _ => rfl)
      exact ⟨fun t ht => by rw [e1, look_put, if_neg ht, look_known hl], c3⟩
    · exact ⟨fun t ht => by rw [look_put, if_neg ht, look_known hl], fun _ _ => rfl⟩

/-! ### the walk in the order of the text -/
/-- a call of a function of Go in a region whose order is drawn: the value, the blocks behind it, those that were looked at, those turned -/
inductive VCallD (P : Program) (f : FuncId) (args : List AV) (h : Heap) (nid : Nat) (K : AV → Heap → List Nat → List Nat → Prop) : Prop
  | pure (pargs : List PV) (r : PV) (h1 : toPs h args = some pargs) (h2 : APure P false f pargs r) (h3 : K (ofP r) h (idsAs args) [])
  | share (pargs : List PV) (r : PV) (h1 : toPs h args = some pargs) (h2 : APure P true f pargs r) (h3 : K (ofP r) (frzs h args) (idsAs args) (idsAs args))
  | new (sh : Bool) (pargs : List PV) (rv : AV) (bs : List ABlk) (h1 : toPs h args = some pargs) (hp : plainA rv = true) (hl : bs.length ≤ 1) (h2 : ANew P sh f pargs rv bs)
      (h3 : K (shA nid rv) (addB nid bs (bif sh then frzs h args else h)) (nid :: idsAs args) (nid :: (bif sh then idsAs args else [])))

def vopD (P : Program) (Z : Zeros) (wr : Bool) (o : Oper) (s : St) (nid : Nat) (K : St → List Nat → List Nat → Prop) : Prop :=
  match o.op with
  | .call c =>
    match c.callee with
    | .builtin _ =>
      match astep P Z wr s.env s.heap nid o with
      | some r => r.vc ∧ K { env := put s.env o.dst r.v, heap := r.heap, nx := s.nx } (lkOf s.env nid o) (chOf s.env nid o)
      | none => False
    | .value x =>
      match ev s.env x with
      | .fn f first cap => VCallD P f (first ++ c.args.toList.map (ev s.env) ++ cap) s.heap nid fun v h lk ch => K { env := put s.env o.dst v, heap := h, nx := s.nx } lk ch
      | _ => False
    | _ => False
  | _ =>
    match astep P Z wr s.env s.heap nid o with
    | some r => r.vc ∧ K { env := put s.env o.dst r.v, heap := r.heap, nx := s.nx } (lkOf s.env nid o) (chOf s.env nid o)
    | none => False

abbrev Foot := List Nat × List Nat

def vopsD (P : Program) (Z : Zeros) (wr : Bool) (ops : Array Oper) : List Oper → Nat → St → List Foot → (St → List Foot → Prop) → Prop
  | [], _, s, fs, K => K s fs
  | o :: rest, nid, s, fs, K =>
    match o.guard with
    | none => vopD P Z wr o s nid fun s' lk ch => vopsD P Z wr ops rest (nid + 1) s' (fs ++ [(lk, ch)]) K
    | some (j, want) =>
      match guardOf ops s.env j with
      | some (t, b) =>
        (b = want → vopD P Z wr o { s with env := (t, .p (.bool want)) :: s.env } nid fun s' lk ch => vopsD P Z wr ops rest (nid + 1) s' (fs ++ [(lk, ch)]) K) ∧
        (b = (!want) → vopsD P Z wr ops rest (nid + 1) { s with env := put ((t, .p (.bool (!want))) :: s.env) o.dst .undef } (fs ++ [([], [])]) K)
      | none => False

theorem vopD_ex {o : Oper} {s : St} {nid : Nat} {K : St → List Nat → List Nat → Prop} (h : vopD P Z wr o s nid K) : ∃ s' lk ch, StepD P Z wr o nid s s' lk ch ∧ K s' lk ch ∧ s'.nx = s.nx := by
  unfold vopD at h
  split at h
  · rename_i c ho
    split at h
    · split at h
      · rename_i r e; exact ⟨_, _, _, .plain r e h.1, h.2, rfl⟩
      · exact h.elim
    · rename_i x hc
      split at h
      · rename_i f first cap hev
        cases h with
        | pure pargs r h1 h2 h3 => exact ⟨_, _, _, .pure ho hc hev h1 h2, h3, rfl⟩
        | share pargs r h1 h2 h3 => exact ⟨_, _, _, .share ho hc hev h1 h2, h3, rfl⟩
        | new sh pargs rv bs h1 hp hl h2 h3 => exact ⟨_, _, _, .new ho hc hev h1 hp hl h2, h3, rfl⟩
      · exact h.elim
    · exact h.elim
  · split at h
    · rename_i r e; exact ⟨_, _, _, .plain r e h.1, h.2, rfl⟩
    · exact h.elim

inductive Chain (P : Program) (Z : Zeros) (wr : Bool) (ops : Array Oper) : List Oper → Nat → St → List St → List Foot → Prop
  | nil {nid : Nat} {s : St} : Chain P Z wr ops [] nid s [] []
  | cons {o : Oper} {rest : List Oper} {nid : Nat} {s s' : St} {lk ch : List Nat} {sts : List St} {fps : List Foot} (h : StepG P Z wr ops o nid s s' lk ch) (t : Chain P Z wr ops rest (nid + 1) s' sts fps) : Chain P Z wr ops (o :: rest) nid s (s' :: sts) ((lk, ch) :: fps)

theorem vopsD_ex {ops : Array Oper} {K : St → List Foot → Prop} : ∀ {l : List Oper} {nid : Nat} {s : St} {fs : List Foot}, vopsD P Z wr ops l nid s fs K →
    ∃ sts fps, Chain P Z wr ops l nid s sts fps ∧ K ((s :: sts).getLast (by simp)) (fs ++ fps)
  | [], nid, s, fs, h => ⟨[], [], .nil, by simpa [vopsD] using h⟩
  | o :: l, nid, s, fs, h => by
    unfold vopsD at h
    split at h
    · rename_i hg
      obtain ⟨s', lk, ch, st, h, _⟩ := vopD_ex h
      obtain ⟨sts, fps, c, k⟩ := vopsD_ex h
      refine ⟨s' :: sts, (lk, ch) :: fps, .cons (by unfold StepG; rw [hg]; exact st) c, ?_⟩
      simpa using k
    · rename_i j want hg
      split at h
      · rename_i t b hgo
        by_cases hb : b = want
        · subst hb
          obtain ⟨s', lk, ch, st, h, _⟩ := vopD_ex (h.1 rfl)
          obtain ⟨sts, fps, c, k⟩ := vopsD_ex h
          refine ⟨s' :: sts, (lk, ch) :: fps, .cons (by unfold StepG; rw [hg]; exact ⟨t, b, hgo, .inl ⟨rfl, st⟩⟩) c, ?_⟩
          simpa using k
        · have hb' : b = !want := by cases b <;> cases want <;> simp_all
          obtain ⟨sts, fps, c, k⟩ := vopsD_ex (h.2 hb')
          refine ⟨_ :: sts, ([], []) :: fps, .cons (by unfold StepG; rw [hg]; exact ⟨t, b, hgo, .inr ⟨hb', by rw [hb'], rfl, rfl⟩⟩) c, ?_⟩
          simpa using k
      · exact h.elim


theorem Chain.at {ops : Array Oper} : ∀ {l : List Oper} {nid : Nat} {s : St} {sts : List St} {fps : List Foot}, Chain P Z wr ops l nid s sts fps →
    sts.length = l.length ∧ ∀ i o, l[i]? = some o → StepG P Z wr ops o (nid + i) ((s :: sts).getD i default) ((s :: sts).getD (i + 1) default) (fps.getD i ([], [])).1 (fps.getD i ([], [])).2
  | [], _, _, _, _, .nil => ⟨rfl, fun i o h => by simp at h⟩
  | _ :: _, nid, s, _, _, .cons h t => by
    obtain ⟨h1, h2⟩ := Chain.at t
    refine ⟨by simp [h1], fun i o hi => ?_⟩
    cases i with
    | zero => simp at hi; subst hi; simpa using h
    | succ i =>
      have := h2 i o (by simpa using hi)
      rw [show nid + 1 + i = nid + (i + 1) from by omega] at this
      simpa using this

/-! ### which pairs may stand in either order -/
def isAnc (ops : Array Oper) : Nat → Nat → Nat → Bool
  | 0, _, _ => false
  | k + 1, i, j =>
    match ops[j]? with
    | some o => o.after.toList.any fun e => Region.binds .any e && (e.on == i || (decide (i < e.on) && isAnc ops k i e.on))
    | none => false

def lookT (ops : Array Oper) (o : Oper) : List Nat := tmpsOf o.op.operands.toList ++ gtmp ops o
def hitT (d : Option Nat) (l : List Nat) : Bool := match d with | some t => l.contains t | none => false
def clash (ops : Array Oper) (x y : Oper) (fx fy : Foot) : Bool :=
  hitT x.dst (lookT ops y) || hitT y.dst (lookT ops x) || hitT x.dst y.dst.toList || fx.2.any (fun id => fy.1.contains id || fy.2.contains id) || fy.2.any (fun id => fx.1.contains id || fx.2.contains id)

/-- of each pair: they stand apart, or the second is bound to wait for the first; who is waited for stands before -/
def okD (ops : Array Oper) (fs : List Foot) : Bool :=
  (List.range ops.size).all fun j =>
    match ops[j]? with
    | some y => (y.after.toList.all fun e => !Region.binds .any e || decide (e.on < j)) && (List.range j).all fun i =>
        match ops[i]? with
        | some x => !clash ops x y (fs.getD i ([], [])) (fs.getD j ([], [])) || isAnc ops ops.size i j
        | none => true
    | none => true

/-- a thing that turns at the writers alone -/
theorem same_between {α : Type} {n : Nat} {f : Nat → α} {wr : Nat → Prop} (hf : ∀ i, i < n → ¬ wr i → f (i + 1) = f i) : ∀ {k j : Nat}, k ≤ n → j ≤ n → (∀ i, i < n → wr i → (i < k ↔ i < j)) → f k = f j := by
  have key : ∀ {k j : Nat}, k ≤ j → j ≤ n → (∀ i, i < n → wr i → (i < k ↔ i < j)) → f k = f j := by
    intro k j hkj
    obtain ⟨d, rfl⟩ : ∃ d, j = k + d := ⟨j - k, by omega⟩
    induction d with
    | zero => intros; rfl
    | succ d ih =>
      intro hj hw
      have h1 := ih (by omega) (by omega) (fun i hi hwi => by have := hw i hi hwi; omega)
      rw [h1]
      refine (hf (k + d) (by omega) fun hwi => ?_).symm
      have := hw (k + d) (by omega) hwi
      omega
  intro k j hk hj hw
  rcases Nat.le_total k j with h | h
  · exact key h hj hw
  · exact (key h hk (fun i hi hwi => (hw i hi hwi).symm)).symm

theorem isAnc_listed {ops : Array Oper} {listed : Nat → Prop} (hc : ∀ j o, ops[j]? = some o → listed j → ∀ e ∈ o.after.toList, Region.binds .any e = true → listed e.on) :
    ∀ (k i j : Nat) (o : Oper), ops[j]? = some o → (∀ e ∈ o.after.toList, Region.binds .any e = true → listed e.on) → isAnc ops k i j = true → listed i
  | 0, _, _, _, _, _, h => by simp [isAnc] at h
  | k + 1, i, j, o, ho, hp, h => by
    simp only [isAnc, ho, List.any_eq_true, Bool.and_eq_true, Bool.or_eq_true, beq_iff_eq] at h
    obtain ⟨e, he, hb, h⟩ := h
    have hl := hp e he hb
    rcases h with rfl | ⟨_, h⟩
    · exact hl
    · cases hq : ops[e.on]? with
      | none =>
        cases k with
        | zero => simp [isAnc] at h
        | succ k => simp [isAnc, hq] at h
      | some o' => exact isAnc_listed hc k i e.on o' hq (fun e' he' hb' => hc e.on o' hq hl e' he' hb') h


theorem StOk.ext {s u : St} (ok : StOk D I g w a u) (he : ∀ t, look s.env t = look u.env t) (hh : ∀ id, hlook s.heap id = hlook u.heap id) : StOk D I g w a s :=
  ⟨fun t => by rw [he]; exact ok.env t, fun t => by rw [he]; exact ok.on t, ⟨fun id x hx => ok.heap.blk id x (by rw [← hh]; exact hx), fun i j x y k hne hx hy => ok.heap.sep i j x y k hne (by rw [← hh]; exact hx) (by rw [← hh]; exact hy), fun id x hx => ok.heap.dom id x (by rw [← hh]; exact hx), ok.heap.new⟩, ok.small⟩

theorem Owned.ext {s u : Heap} (hh : ∀ id, hlook s id = hlook u id) : Owned g s = Owned g u := by
  funext b
  simp only [Owned, hh]

theorem getD_tf {l : Array Bool} {i : Nat} (h : i < l.size) : l.getD i true = l.getD i false := by simp [h]

/-- all are listed, where none is ready -/
theorem all_listed {ops : Array Oper} {listed : Array Bool} (hs : listed.size = ops.size) (hwf : ∀ j o, ops[j]? = some o → ∀ e ∈ o.after.toList, Region.binds .any e = true → e.on < j) (hr : Region.ready .any ops listed = []) : ∀ i, i < ops.size → listed.getD i false = true := by
  intro i
  induction i using Nat.strongRecOn with
  | _ i ih =>
    intro hi
    cases hq : listed.getD i false with
    | true => rfl
    | false =>
      exfalso
      have ho : ops[i]? = some ops[i] := by simp [hi]
      have : i ∈ Region.ready .any ops listed := mem_ready.2 ⟨by rw [getD_tf (by omega)]; exact hq, ops[i], ho, fun e he hb => by
        have hlt := hwf i _ ho e (by simpa using he) hb
        exact ih e.on hlt (by omega)⟩
      rw [hr] at this
      cases this

def unl (n : Nat) (listed : Array Bool) : Nat := ((List.range n).filter fun i => !listed.getD i true).length

theorem unl_set {n : Nat} {listed : Array Bool} {i : Nat} (hs : listed.size = n) (hi : i < n) (hu : listed.getD i true = false) : unl n (listed.setIfInBounds i true) < unl n listed := by
  unfold unl
  have hsub : ((List.range n).filter fun k => !(listed.setIfInBounds i true).getD k true) = ((List.range n).filter fun k => !listed.getD k true).filter fun k => !(k == i) := by
    rw [List.filter_filter]
    refine List.filter_congr fun k hk => ?_
    by_cases e : k = i
    · subst e; simp [hs, hi]
    · have : (listed.setIfInBounds i true).getD k true = listed.getD k true := by
        simp only [Array.getD_eq_getD_getElem?]
        rw [Array.getElem?_setIfInBounds_ne (Ne.symm e)]
      rw [this]; simp [e]
  rw [hsub]
  have hmem : i ∈ (List.range n).filter fun k => !listed.getD k true := by rw [List.mem_filter]; exact ⟨List.mem_range.2 hi, by rw [hu]; rfl⟩
  generalize (List.range n).filter (fun k => !listed.getD k true) = l at hmem
  clear hsub
  induction l with
  | nil => cases hmem
  | cons x l ih =>
    simp only [List.filter_cons]
    by_cases e : x = i
    · subst e
      simp only [BEq.rfl, Bool.not_true, Bool.false_eq_true, if_false, List.length_cons]
      have := List.length_filter_le (fun k => !(k == x)) l
      omega
    · have hx : (!(x == i)) = true := by simp [e]
      rw [if_pos hx]
      have := ih (by simpa [Ne.symm e] using hmem)
      simpa using this

theorem hitT_spec {d : Option Nat} {l : List Nat} {t : Nat} (hd : d = some t) (ht : t ∈ l) : hitT d l = true := by subst hd; simpa [hitT] using ht

theorem clash_of {ops : Array Oper} {x y : Oper} {fx fy : Foot} (h : clash ops x y fx fy = false) :
    (∀ t, x.dst = some t → t ∉ lookT ops y) ∧ (∀ t, y.dst = some t → t ∉ lookT ops x) ∧ (∀ t, x.dst = some t → y.dst ≠ some t) ∧ (∀ id, id ∈ fx.2 → id ∉ fy.1 ∧ id ∉ fy.2) ∧ (∀ id, id ∈ fy.2 → id ∉ fx.1 ∧ id ∉ fx.2) := by
  simp only [clash, Bool.or_eq_false_iff] at h
  obtain ⟨⟨⟨⟨h1, h2⟩, h3⟩, h4⟩, h5⟩ := h
  refine ⟨fun t ht hm => ?_, fun t ht hm => ?_, fun t ht hy => ?_, fun id hi => ?_, fun id hi => ?_⟩
  · rw [hitT_spec ht hm] at h1; cases h1
  · rw [hitT_spec ht hm] at h2; cases h2
  · rw [hitT_spec ht (by rw [hy]; simp)] at h3; cases h3
  · have := List.any_eq_false.1 h4 id hi
    simpa using this
  · have := List.any_eq_false.1 h5 id hi
    simpa using this

theorem draw_any (hz : ZOk P Z) {ops : Array Oper} {S : Nat → St} {Fo : Nat → Foot} {nx0 : Nat} (hch : ∀ i o, ops[i]? = some o → StepG P Z wr ops o (nx0 + i) (S i) (S (i + 1)) (Fo i).1 (Fo i).2)
    (hwf : ∀ j o, ops[j]? = some o → ∀ e ∈ o.after.toList, Region.binds .any e = true → e.on < j)
    (hap : ∀ i j x y, i < j → ops[i]? = some x → ops[j]? = some y → clash ops x y (Fo i) (Fo j) = false ∨ isAnc ops ops.size i j = true)
    (hdst : ∀ (i : Nat) o d, ops[i]? = some o → o.dst = some d → d < N) {r : Option Nat} {m : Nat} {I0 O0 : Nat → Prop} {g0 : Gh} {w0 : World} {dl : List Deferred} {Q : Exit → Act → World → Prop}
    (hQ : ∀ I' g' a' w', a'.tmps.size = N → a'.defers = dl → StOk (Dn ⟨(S ops.size).env, (S ops.size).heap, nx0 + ops.size⟩) I' g' w' a' ⟨(S ops.size).env, (S ops.size).heap, nx0 + ops.size⟩ → Fr I0 O0 w0 I' (Owned g' (S ops.size).heap) w' → Gh.kp g0 g' → Q .normal a' w') :
    ∀ (fuel : Nat) (listed : Array Bool) (a : Act) (w : World) (u : St) (D : Nat → Nat → Prop) (I : Nat → Prop) (g : Gh), listed.size = ops.size → unl ops.size listed ≤ fuel →
      (∀ j o, ops[j]? = some o → listed.getD j false = true → ∀ e ∈ o.after.toList, Region.binds .any e = true → listed.getD e.on false = true) →
      (∀ t, ∃ k, k ≤ ops.size ∧ look u.env t = look (S k).env t ∧ ∀ i, i < ops.size → (∃ o, ops[i]? = some o ∧ o.dst = some t) → (listed.getD i false = true ↔ i < k)) →
      (∀ id, ∃ k, k ≤ ops.size ∧ hlook u.heap id = hlook (S k).heap id ∧ ∀ i, i < ops.size → id ∈ (Fo i).2 → (listed.getD i false = true ↔ i < k)) →
      (∀ id m, D id m → id < nx0 ∨ ∃ i, i < ops.size ∧ listed.getD i false = true ∧ id = nx0 + i) →
      a.tmps.size = N → a.defers = dl → StOk D I g w a u → Fr I0 O0 w0 I (Owned g u.heap) w → Gh.kp g0 g → wpAnyIn (wideR r) m P .any ops Q fuel listed a w := by
  have hkeep : ∀ i, i < ops.size → (∀ t, (¬ ∃ o, ops[i]? = some o ∧ o.dst = some t) → look (S (i + 1)).env t = look (S i).env t) ∧ (∀ id, id ∉ (Fo i).2 → hlook (S (i + 1)).heap id = hlook (S i).heap id) := by
    intro i hi
    have ho : ops[i]? = some ops[i] := by simp [hi]
    obtain ⟨h1, h2⟩ := (hch i _ ho).keeps
    exact ⟨fun t ht => h1 t fun e => ht ⟨_, ho, e⟩, h2⟩
  have hfin : ∀ (listed : Array Bool) (a : Act) (w : World) (u : St) (D : Nat → Nat → Prop) (I : Nat → Prop) (g : Gh), (∀ i, i < ops.size → listed.getD i false = true) →
      (∀ t, ∃ k, k ≤ ops.size ∧ look u.env t = look (S k).env t ∧ ∀ i, i < ops.size → (∃ o, ops[i]? = some o ∧ o.dst = some t) → (listed.getD i false = true ↔ i < k)) →
      (∀ id, ∃ k, k ≤ ops.size ∧ hlook u.heap id = hlook (S k).heap id ∧ ∀ i, i < ops.size → id ∈ (Fo i).2 → (listed.getD i false = true ↔ i < k)) →
      (∀ id m, D id m → id < nx0 ∨ ∃ i, i < ops.size ∧ listed.getD i false = true ∧ id = nx0 + i) →
      a.tmps.size = N → a.defers = dl → StOk D I g w a u → Fr I0 O0 w0 I (Owned g u.heap) w → Gh.kp g0 g → Q .normal a w := by
    intro listed a w u D I g hall hT hB hD hN hdl ok fr kp
    have hE : ∀ t, look (S ops.size).env t = look u.env t := by
      intro t
      obtain ⟨k, hk, he, hw⟩ := hT t
      rw [he]
      exact same_between (f := fun k => look (S k).env t) (n := ops.size) (wr := fun i => ∃ o, ops[i]? = some o ∧ o.dst = some t) (fun i hi hn => (hkeep i hi).1 t hn) (Nat.le_refl _) hk (fun i hi hwi => ⟨fun _ => (hw i hi hwi).1 (hall i hi), fun _ => hi⟩)
    have hH : ∀ id, hlook (S ops.size).heap id = hlook u.heap id := by
      intro id
      obtain ⟨k, hk, he, hw⟩ := hB id
      rw [he]
      exact same_between (f := fun k => hlook (S k).heap id) (n := ops.size) (wr := fun i => id ∈ (Fo i).2) (fun i hi hn => (hkeep i hi).2 id hn) (Nat.le_refl _) hk (fun i hi hwi => ⟨fun _ => (hw i hi hwi).1 (hall i hi), fun _ => hi⟩)
    have ok' := ok.ext (s := ⟨(S ops.size).env, (S ops.size).heap, nx0 + ops.size⟩) hE hH
    refine hQ I g a w hN hdl (ok'.mono (fun id m hd => ⟨?_, fun e sz xs f fl hx => (ok'.heap.dom id _ hx).2 m hd⟩) fun _ _ _ _ _ _ _ hx hd => hd.2 _ _ _ _ _ hx) (by rw [Owned.ext hH]; exact fr) kp
    rcases hD id m hd with h | ⟨i, hi, _, rfl⟩ <;> (show _ < nx0 + ops.size) <;> omega
  intro fuel
  induction fuel with
  | zero =>
    intro listed a w u D I g hs hf hcl hT hB hD hN hdl ok fr kp
    have hall : ∀ i, i < ops.size → listed.getD i false = true := by
      intro i hi
      cases hq : listed.getD i false with
      | true => rfl
      | false =>
        have := unl_set hs hi (by rw [getD_tf (by omega)]; exact hq)
        omega
    refine ⟨?_, hfin listed a w u D I g hall hT hB hD hN hdl ok fr kp⟩
    rw [List.eq_nil_iff_forall_not_mem]
    intro i hi
    obtain ⟨hu, o, ho, _⟩ := mem_ready.1 hi
    have hlt : i < ops.size := (Array.getElem?_eq_some_iff.1 ho).1
    rw [getD_tf (by omega), hall i hlt] at hu
    cases hu
  | succ fuel ih =>
    intro listed a w u D I g hs hf hcl hT hB hD hN hdl ok fr kp
    refine ⟨fun hr => hfin listed a w u D I g (all_listed hs hwf hr) hT hB hD hN hdl ok fr kp, fun j hj => ?_⟩
    obtain ⟨hju, o, ho, hpre⟩ := mem_ready.1 hj
    have hjlt : j < ops.size := (Array.getElem?_eq_some_iff.1 ho).1
    have hjf : listed.getD j false = false := by rw [← getD_tf (by omega)]; exact hju
    have hpre' : ∀ e ∈ o.after.toList, Region.binds .any e = true → listed.getD e.on false = true := fun e he hb => hpre e (by simpa using he) hb
    -- who clashes with j
    have hbefore : ∀ i x, i < j → ops[i]? = some x → clash ops x o (Fo i) (Fo j) = true → listed.getD i false = true := by
      intro i x hij hx hcl'
      rcases hap i j x o hij hx ho with h | h
      · rw [h] at hcl'; cases hcl'
      · exact isAnc_listed (listed := fun i => listed.getD i false = true) hcl _ i j o ho hpre' h
    have hafter : ∀ i x, j < i → ops[i]? = some x → clash ops o x (Fo j) (Fo i) = true → listed.getD i false = false := by
      intro i x hij hx hcl'
      rcases hap j i o x hij ho hx with h | h
      · rw [h] at hcl'; cases hcl'
      · cases hq : listed.getD i false with
        | false => rfl
        | true =>
          have : listed.getD j false = true := isAnc_listed (listed := fun i => listed.getD i false = true) hcl _ j i x hx (hcl i x hx hq) h
          rw [hjf] at this; cases this
    -- a location that j looks at or turns: its writers
    have horder : ∀ i x, i < ops.size → ops[i]? = some x → (i < j → clash ops x o (Fo i) (Fo j) = true) → (j < i → clash ops o x (Fo j) (Fo i) = true) → (listed.getD i false = true ↔ i < j) := by
      intro i x hi hx h1 h2
      rcases Nat.lt_trichotomy i j with h | h | h
      · exact ⟨fun _ => h, fun _ => hbefore i x h hx (h1 h)⟩
      · subst h; rw [hjf]; simp
      · rw [hafter i x h hx (h2 h)]; simp; omega
    have htime : ∀ t, t ∈ lookT ops o ∨ o.dst = some t → ∀ i, i < ops.size → (∃ x, ops[i]? = some x ∧ x.dst = some t) → (listed.getD i false = true ↔ i < j) := by
      rintro t ht i hi ⟨x, hx, hxd⟩
      refine horder i x hi hx (fun _ => ?_) (fun _ => ?_)
      · cases hq : clash ops x o (Fo i) (Fo j) with
        | true => rfl
        | false =>
          obtain ⟨c1, _, c3, _⟩ := clash_of hq
          rcases ht with ht | ht
          · exact absurd ht (c1 t hxd)
          · exact absurd ht (c3 t hxd)
      · cases hq : clash ops o x (Fo j) (Fo i) with
        | true => rfl
        | false =>
          obtain ⟨_, c2, c3, _⟩ := clash_of hq
          rcases ht with ht | ht
          · exact absurd ht (c2 t hxd)
          · exact absurd hxd (c3 t ht)
    have htimeB : ∀ id, id ∈ (Fo j).1 ∨ id ∈ (Fo j).2 → ∀ i, i < ops.size → id ∈ (Fo i).2 → (listed.getD i false = true ↔ i < j) := by
      intro id hid i hi hxi
      have hx : ops[i]? = some ops[i] := by simp [hi]
      refine horder i _ hi hx (fun _ => ?_) (fun _ => ?_)
      · cases hq : clash ops ops[i] o (Fo i) (Fo j) with
        | true => rfl
        | false =>
          obtain ⟨_, _, _, c4, _⟩ := clash_of hq
          have := c4 id hxi
          exact absurd hid (by simp [this.1, this.2])
      · cases hq : clash ops o ops[i] (Fo j) (Fo i) with
        | true => rfl
        | false =>
          obtain ⟨_, _, _, _, c5⟩ := clash_of hq
          have := c5 id hxi
          exact absurd hid (by simp [this.1, this.2])
    have hagT : ∀ t, t ∈ lookT ops o → look u.env t = look (S j).env t := by
      intro t ht
      obtain ⟨k, hk, he, hw⟩ := hT t
      rw [he]
      exact same_between (f := fun k => look (S k).env t) (n := ops.size) (wr := fun i => ∃ o, ops[i]? = some o ∧ o.dst = some t) (fun i hi hn => (hkeep i hi).1 t hn) hk (Nat.le_of_lt hjlt) (fun i hi hwi => (hw i hi hwi).symm.trans (htime t (.inl ht) i hi hwi))
    have hagB : ∀ id, id ∈ (Fo j).1 ∨ id ∈ (Fo j).2 → hlook u.heap id = hlook (S j).heap id := by
      intro id hid
      obtain ⟨k, hk, he, hw⟩ := hB id
      rw [he]
      exact same_between (f := fun k => hlook (S k).heap id) (n := ops.size) (wr := fun i => id ∈ (Fo i).2) (fun i hi hn => (hkeep i hi).2 id hn) hk (Nat.le_of_lt hjlt) (fun i hi hwi => (hw i hi hwi).symm.trans (htimeB id hid i hi hwi))
    have hnid : ∀ m, ¬ D (nx0 + j) m := by
      intro m hd
      rcases hD _ m hd with h | ⟨i, hi, hl, he⟩
      · omega
      · have : i = j := by omega
        subst this
        rw [hjf] at hl; cases hl
    refine (hch j o ho).run hz ho (fun t ht => hagT t (List.mem_append_left _ ht)) (fun t ht => hagT t (List.mem_append_right _ ht)) (fun id hid => hagB id (.inl hid)) (fun d hd => by rw [hN]; exact hdst j o d ho hd) ok hnid ?_
    intro a' w' u' D' I' g' v hu' hS' hc1 hc2 hsz hdf ok' fr' kp' hb'
    have hset : ∀ i, (listed.setIfInBounds j true).getD i false = true ↔ (i = j ∨ listed.getD i false = true) := by
      intro i
      by_cases e : i = j
      · subst e; simp [hs, hjlt]
      · have : (listed.setIfInBounds j true).getD i false = listed.getD i false := by
          simp only [Array.getD_eq_getD_getElem?]
          rw [Array.getElem?_setIfInBounds_ne (Ne.symm e)]
        rw [this]; simp [e]
    refine ih (listed.setIfInBounds j true) a' w' u' D' I' g' (by simpa using hs) ?_ ?_ ?_ ?_ ?_ (hsz.trans hN) (hdf.trans hdl) ok' (fr.trans fr') (kp.trans kp')
    · have := unl_set hs hjlt hju
      omega
    · intro i x hx hl e he hb
      rw [hset] at hl ⊢
      rcases hl with rfl | hl
      · rw [ho] at hx; cases hx
        exact .inr (hpre' e he hb)
      · exact .inr (hcl i x hx hl e he hb)
    · intro t
      by_cases hd : o.dst = some t
      · refine ⟨j + 1, hjlt, ?_, fun i hi hwi => ?_⟩
        · rw [hu' t, hS' t, if_pos hd, if_pos hd]
        · rw [hset, htime t (.inr hd) i hi hwi]; omega
      · obtain ⟨k, hk, he, hw⟩ := hT t
        refine ⟨k, hk, by rw [hu' t, if_neg hd]; exact he, fun i hi hwi => ?_⟩
        rw [hset, ← hw i hi hwi]
        refine ⟨fun h => h.elim (fun h => ?_) (fun h => h), .inr⟩
        subst h
        obtain ⟨x, hx, hxd⟩ := hwi
        rw [ho] at hx; cases hx
        exact absurd hxd hd
    · intro id
      by_cases hd : id ∈ (Fo j).2
      · refine ⟨j + 1, hjlt, hc1 id (hagB id (.inr hd)), fun i hi hwi => ?_⟩
        rw [hset, htimeB id (.inr hd) i hi hwi]; omega
      · obtain ⟨k, hk, he, hw⟩ := hB id
        refine ⟨k, hk, by rw [hc2 id hd]; exact he, fun i hi hwi => ?_⟩
        rw [hset, ← hw i hi hwi]
        refine ⟨fun h => h.elim (fun h => ?_) (fun h => h), .inr⟩
        subst h
        exact absurd hwi hd
    · intro id m hd
      rcases hb' id m hd with ⟨m', h⟩ | h
      · rcases hD id m' h with h | ⟨i, hi, hl, he⟩
        · exact .inl h
        · exact .inr ⟨i, hi, (hset i).2 (.inr hl), he⟩
      · exact .inr ⟨j, hjlt, (hset j).2 (.inl rfl), h⟩

/-- A REGION THAT DRAWS ITS ORDER: one walk in the order of the text -/
theorem AWP.region_draw (hz : ZOk P Z) (wr : Bool) (hm : P.follows .mixedOrders = true) {id : Nat} {l : List Oper} {s : St} {Q : Exit → St → Prop} (hd : dstOk N l = true)
    (h : vopsD P Z wr l.toArray l s.nx s [] (fun s' fs => okD l.toArray fs = true ∧ Q .normal ⟨s'.env, s'.heap, s.nx + l.length⟩)) : AWP P N rd (.region id l.toArray true) s Q := by
  intro r n I g w a _ hN hdl ok
  refine wpIn_region_any hm ?_
  obtain ⟨sts, fps, hc, hok, hq⟩ := vopsD_ex h
  obtain ⟨hlen, hat⟩ := hc.at
  simp only [List.nil_append] at hok
  have hsz : l.toArray.size = l.length := by simp
  have hlast : (s :: sts).getLast (by simp) = (s :: sts).getD l.length default := by
    rw [List.getLast_eq_getElem, List.getD_eq_getElem?_getD]
    simp [← hlen]
  rw [hlast] at hq
  simp only [okD, List.all_eq_true, List.mem_range] at hok
  have okw : StOk (Dn s) I g { w with drawn := w.drawn + 1 } a s :=
    ⟨fun t => RA.mono (w := w) (w' := { w with drawn := w.drawn + 1 }) (D := fun _ _ => True) (fun _ _ => rfl) (fun _ h => h) (Gh.same.refl _ _) _ _ ((on_all _ (fun _ _ => trivial)).1 _) (ok.env t), ok.on, ok.heap.world (fun _ _ => rfl) (fun _ _ _ _ _ => rfl) (Nat.le_refl _) (fun b C T fr h => .inr ⟨C, T, h⟩), ok.small⟩
  have hunl : ∀ n, unl n (Array.replicate n false) ≤ n := fun n => by
    unfold unl
    refine Nat.le_trans (List.length_filter_le _ _) (by simp)
  have hrep : ∀ i, (Array.replicate l.toArray.size false).getD i false = false := fun i => by
    simp only [Array.getD_eq_getD_getElem?, Array.getElem?_replicate]
    split <;> rfl
  refine draw_any (N := N) (wr := wr) hz (ops := l.toArray) (S := fun i => (s :: sts).getD i default) (Fo := fun i => fps.getD i ([], [])) (nx0 := s.nx) (dl := a.defers) (I0 := I) (O0 := Owned g s.heap) (g0 := g) (w0 := w) (fun i o ho => hat i o (by simpa using ho)) ?_ ?_ ?_ ?_
    l.toArray.size _ a _ s (Dn s) I g (by simp) (hunl _) ?_ ?_ ?_ (fun id m hd => .inl hd.1) hN rfl okw ⟨⟨rfl, rfl, rfl, Nat.le_refl _, fun _ _ => rfl⟩, fun _ _ _ => rfl, fun _ h => .inl h, fun _ h => .inl h, fun _ h => h, fun b C T fr h => .inr ⟨C, T, h⟩⟩ (Gh.kp.refl _)
  · intro j o ho e he hb
    have := hok j (Array.getElem?_eq_some_iff.1 ho).1
    rw [ho] at this
    simp only [Bool.and_eq_true, List.all_eq_true, Bool.or_eq_true, Bool.not_eq_true', decide_eq_true_eq] at this
    rcases this.1 e he with h | h
    · rw [h] at hb; cases hb
    · exact h
  · intro i j x y hij hx hy
    have := hok j (Array.getElem?_eq_some_iff.1 hy).1
    rw [hy] at this
    simp only [Bool.and_eq_true, List.all_eq_true, List.mem_range] at this
    have h2 := this.2 i hij
    rw [hx] at h2
    simp only [Bool.or_eq_true, Bool.not_eq_true'] at h2
    exact h2
  · intro i o d ho hd'
    refine dstOk_spec hd o ?_ d hd'
    have : o ∈ l.toArray := Array.mem_of_getElem? ho
    simpa using this
  · intro I' g' a' w' hN' hdl' ok' fr' kp'
    simp only [hsz] at ok' fr'
    exact ⟨_, I', g', hq, hN', ⟨by rw [hdl']; exact hdl.fr fr', by rw [hdl']; exact DlNew.refl _ _⟩, ok', fr', kp'⟩
  · intro j o ho hl
    rw [hrep] at hl; cases hl
  · intro t
    exact ⟨0, Nat.zero_le _, by simp, fun i _ _ => by rw [hrep]; simp⟩
  · intro id
    exact ⟨0, Nat.zero_le _, by simp, fun i _ _ => by rw [hrep]; simp⟩

end
end Go.Abs

namespace Go.Abs
open Go Go.RowKit

attribute [go_sem] bytesV pu8s shA shAs renA renAs addB hsIds hsIdss sameB newRes onNew onNews lenOf isFl isLst leP leL leA leAs leEn leB leH1 leHn srcs sg plainA plainAs vops vop astep guardOf look hlook hset Abs.put ev evc cellsOf dropW takeW sub sumW putAt isArr oneB oneAV oneW onePV ldres toP toPs frz frzs ofP ofP.ofP1 vload vstore iarith intOp shOp strOp abin aun aint aslice afill aparts aelems frzParts asrc isHs
  aappend alen amin amax pick ares ares1 aresL argEnv awd wd AV.on AV.ons thenQ blockQ leE leH lenOk onA onAs onE onB onH argEnvA hdel flat flats freshA freshAs freshSrc jumpOf

attribute [go_sem] Option.bind_some Option.bind_none Option.map_some Option.map_none List.map_cons List.map_nil List.cons_append List.nil_append List.append_nil List.length_cons List.length_nil Option.some.injEq List.getElem?_cons_zero List.getElem?_cons_succ
  List.all_cons List.all_nil Bool.and_true Bool.true_and Bool.and_self Nat.reduceAdd Int.toNat_natCast

attribute [go_sem] Option.isSome_some Option.isSome_none List.length_map List.getElem?_map Option.bind_eq_bind List.isEmpty_cons List.isEmpty_nil Bool.false_eq_true AV.p.injEq PV.int.injEq PV.bool.injEq PV.str.injEq PV.lst.injEq true_and and_true exists_eq_left' exists_eq_left eq_self true_or or_true and_self forall_const not_false_eq_true not_true_eq_false reduceCtorEq or_false false_or if_true if_false ite_true ite_false
  List.toList_toArray bne_iff_ne ne_eq decide_eq_true_eq decide_eq_false_iff_not Bool.not_eq_true Bool.not_eq_false

attribute [go_sem] true_implies false_implies Bool.not_true Bool.not_false cond_true cond_false Bool.false_or Bool.or_true Bool.or_false Bool.true_or Bool.false_and Bool.and_false Nat.zero_add Nat.add_zero List.getElem?_toArray List.getElem?_cons_zero List.getElem?_cons_succ noGotoQ scopeQ vopsD vopD lkOf chOf opIds idsA idsAs partIds



theorem St.put_eq (s : St) (d : Option Nat) (v : AV) : ({ s with env := Abs.put s.env d v } : St) = ⟨Abs.put s.env d v, s.heap, s.nx⟩ := rfl
end Go.Abs

namespace Go.Abs
open Go Go.RowKit

def zchk1 : PV → Value → Bool
  | .bool b, .bool b' => b == b'
  | .int k n, .int k' n' => decide (k = k') && decide (n = n')
  | .str s, .string s' => s.size == 0 && s'.size == 0
  | .nil, .slice none 0 0 => true
  | .nilptr, .pointer none => true
  | .nilf, .nilFunc => true
  | .niface, .nilIface => true
  | _, _ => false
def zchkL : List PV → List Value → Bool
  | [], [] => true
  | c :: cs, v :: vs => zchk1 c v && zchkL cs vs
  | _, _ => false
def zchk : List PV → List Value → Bool
  | [], [] => true
  | .arr n xs :: cs, vs => xs.length == n && zchkL xs (vs.take n) && zchk cs (vs.drop n)
  | c :: cs, v :: vs => zchk1 c v && zchk cs vs
  | _, _ => false

theorem size0 {s s' : ByteArray} (h : s.size = 0) (h' : s'.size = 0) : s = s' := by
  obtain ⟨d⟩ := s
  obtain ⟨d'⟩ := s'
  have h1 : d = #[] := Array.eq_empty_of_size_eq_zero h
  have h2 : d' = #[] := Array.eq_empty_of_size_eq_zero h'
  rw [h1, h2]

theorem zchk1_sound {c : PV} {v : Value} (h : zchk1 c v = true) (I : Nat → Prop) (w : World) : R I w c [v] := by
  unfold zchk1 at h
  split at h
  · simp only [R]; simp at h; rw [h]
  · simp only [R]; simp at h; rw [h.1, h.2]
  · simp only [R]; simp only [Bool.and_eq_true, beq_iff_eq] at h; rw [size0 h.1 h.2]
  · simp only [R]
  · simp only [R]
  · simp only [R]
  · simp only [R]
  · cases h

theorem zchkL_sound (I : Nat → Prop) (w : World) : ∀ {cs : List PV} {vs : List Value}, zchkL cs vs = true → REs I w cs vs ∧ vs.length = cs.length
  | [], [], _ => by simp [REs]
  | [], _ :: _, h => by simp [zchkL] at h
  | _ :: _, [], h => by simp [zchkL] at h
  | c :: cs, v :: vs, h => by
    simp only [zchkL, Bool.and_eq_true] at h
    obtain ⟨h1, h2⟩ := zchkL_sound I w h.2
    simp only [REs, List.length_cons, h2, and_true]
    exact ⟨v, vs, rfl, zchk1_sound h.1 I w, h1⟩

theorem zchk_sound (I : Nat → Prop) (w : World) : ∀ {cs : List PV} {vs : List Value}, zchk cs vs = true → Rs I w cs vs
  | [], [], _ => by simp only [Rs]
  | [], _ :: _, h => by simp [zchk] at h
  | .arr n xs :: cs, vs, h => by
    simp only [zchk, Bool.and_eq_true, beq_iff_eq] at h
    obtain ⟨h1, h2⟩ := zchkL_sound I w h.1.2
    simp only [Rs, R]
    refine ⟨vs.take n, vs.drop n, (List.take_append_drop _ _).symm, ⟨h.1.1, ?_, h1⟩, zchk_sound I w h.2⟩
    rw [h2, h.1.1]
  | c :: cs, [], h => by
    cases c with
    | arr n xs =>
      simp only [zchk, Bool.and_eq_true, beq_iff_eq, List.take_nil, List.drop_nil] at h
      obtain ⟨h1, h2⟩ := zchkL_sound I w h.1.2
      simp only [Rs, R]
      exact ⟨[], [], rfl, ⟨h.1.1, by rw [h2, h.1.1], h1⟩, zchk_sound I w h.2⟩
    | _ => simp [zchk] at h
  | c :: cs, v :: us, h => by
    by_cases hc : ∃ n xs, c = .arr n xs
    · obtain ⟨n, xs, rfl⟩ := hc
      simp only [zchk, Bool.and_eq_true, beq_iff_eq] at h
      obtain ⟨h1, h2⟩ := zchkL_sound I w h.1.2
      simp only [Rs, R]
      refine ⟨(v :: us).take n, (v :: us).drop n, (List.take_append_drop _ _).symm, ⟨h.1.1, ?_, h1⟩, zchk_sound I w h.2⟩
      rw [h2, h.1.1]
    · have h' : zchk1 c v = true ∧ zchk cs us = true := by
        cases c with
        | arr n xs => exact absurd ⟨n, xs, rfl⟩ hc
        | _ => simpa only [zchk, Bool.and_eq_true] using h
      simp only [Rs]
      exact ⟨[v], us, rfl, zchk1_sound h'.1 I w, zchk_sound I w h'.2⟩
termination_by cs => cs.length

def zok1 (P : Program) (Z : Zeros) (t : Nat) : Bool :=
  match P.info? t with
  | some i =>
    match i.zero with
    | some z => z.cells.size == i.size && z.cells.toList.all (fun v => v.oneCell') && zchk (Z t) z.cells.toList
    | none => false
  | none => false

theorem ZOk.of_check {P : Program} {Z : Zeros} (ts : List Nat) (h0 : ∀ t, t ∉ ts → Z t = []) (h : ts.all (zok1 P Z) = true) : ZOk P Z := by
  intro t ht
  have hm : t ∈ ts := by
    by_cases hm : t ∈ ts
    · exact hm
    · exact absurd (h0 t hm) ht
  have := List.all_eq_true.1 h t hm
  unfold zok1 at this
  split at this
  · rename_i i hi
    split at this
    · rename_i z hz
      simp only [Bool.and_eq_true, beq_iff_eq] at this
      exact ⟨i, z, hi, hz, this.1.1, fun v hv => List.all_eq_true.1 this.1.2 v hv, fun I w => zchk_sound I w this.2⟩
    · cases this
  · cases this

/-- the zeros out of a table -/
def ofTable (T : List (Nat × List PV)) : Zeros := fun t => (T.lookup t).getD []

theorem ZOk.of_table {P : Program} (T : List (Nat × List PV)) (h : (T.map (·.1)).all (zok1 P (ofTable T)) = true) : ZOk P (ofTable T) := by
  refine ZOk.of_check (T.map (·.1)) (fun t ht => ?_) h
  unfold ofTable
  have : T.lookup t = none := by
    clear h
    induction T with
    | nil => rfl
    | cons p T ih =>
      obtain ⟨k, v⟩ := p
      simp only [List.map_cons, List.mem_cons, not_or] at ht
      simp only [List.lookup]
      have : (t == k) = false := by simp [ht.1]
      rw [this]
      exact ih ht.2
  rw [this]; rfl
end Go.Abs

namespace Go.Abs
open Go Go.RowKit

/-- a call of a function's value, or through an interface -/
def isVal (o : Oper) : Bool :=
  match o.op with
  | .call c => match c.callee with | .builtin _ => false | _ => true
  | _ => false

section
variable {P : Program} {Z : Zeros} {wr : Bool} {ops : Array Oper} {o : Oper} {rest : List Oper} {env : List (Nat × AV)} {h h' : Heap} {nx nx' nid nid' : Nat} {K : St → Prop} {vc : Prop} {v : AV} {d : Nat}
  {c : Call} {x : Operand} {f : FuncId} {first cap : List AV} {pargs : List PV} {r : PV} {rv : AV} {bs : List ABlk} {j t id : Nat} {want b : Bool} {args : List AV}

theorem vop_plain {s : St} (hc : isVal o = false) {q : Res} (e : astep P Z wr s.env s.heap nid o = some q) (hv : q.vc) (hk : K ⟨put s.env o.dst q.v, q.heap, s.nx⟩) : vop P Z wr o s nid K := by
  unfold vop
  unfold isVal at hc
  split
  · rename_i c ho
    rw [ho] at hc
    split
    · rw [e]; exact ⟨hv, hk⟩
    · rename_i x hx; simp [hx] at hc
    · rename_i h1 h2
      cases hb : c.callee with
      | builtin b => exact absurd hb (h1 b)
      | _ => simp [hb] at hc
  · rw [e]; exact ⟨hv, hk⟩

theorem vs_nil {s : St} (h : K s) : vops P Z wr ops [] s K := h

theorem vs_some (hg : o.guard = none) (hc : isVal o = false) (hd : o.dst = some d) (e : astep P Z wr env h nx o = some ⟨vc, v, h'⟩) (hn : nx + 1 = nx') (hv : vc) (hk : vops P Z wr ops rest ⟨(d, v) :: env, h', nx'⟩ K) : vops P Z wr ops (o :: rest) ⟨env, h, nx⟩ K := by
  subst hn
  unfold vops
  rw [hg]
  exact vop_plain hc e hv (by rw [hd]; exact hk)

theorem vs_none (hg : o.guard = none) (hc : isVal o = false) (hd : o.dst = none) (e : astep P Z wr env h nx o = some ⟨vc, v, h'⟩) (hn : nx + 1 = nx') (hv : vc) (hk : vops P Z wr ops rest ⟨env, h', nx'⟩ K) : vops P Z wr ops (o :: rest) ⟨env, h, nx⟩ K := by
  subst hn
  unfold vops
  rw [hg]
  exact vop_plain hc e hv (by rw [hd]; exact hk)

/-- a guard that is met, not met, open -/
theorem vs_gt (hg : o.guard = some (j, want)) (hgo : guardOf ops env j = some (t, want)) (hk : vops P Z wr ops ({ o with guard := none } :: rest) ⟨(t, .p (.bool want)) :: env, h, nx⟩ K) : vops P Z wr ops (o :: rest) ⟨env, h, nx⟩ K := by
  unfold vops at hk ⊢
  rw [hg]
  simp only [hgo, true_implies]
  refine ⟨?_, fun h => absurd h (by cases want <;> simp)⟩
  simpa only [vop, astep] using hk

theorem vs_gf (hg : o.guard = some (j, want)) (hd : o.dst = some d) (hgo : guardOf ops env j = some (t, !want)) (hn : nx + 1 = nx') (hk : vops P Z wr ops rest ⟨(d, .undef) :: (t, .p (.bool (!want))) :: env, h, nx'⟩ K) : vops P Z wr ops (o :: rest) ⟨env, h, nx⟩ K := by
  subst hn
  unfold vops
  rw [hg, hd]
  simp only [hgo]
  exact ⟨fun h => absurd h (by cases want <;> simp), fun _ => hk⟩

theorem vs_g {want' : Bool} (hg : o.guard = some (j, want)) (hd : o.dst = some d) (hgo : guardOf ops env j = some (t, b)) (hw : (!want) = want') (hn : nx + 1 = nx') (h1 : b = want → vops P Z wr ops ({ o with guard := none } :: rest) ⟨(t, .p (.bool want)) :: env, h, nx⟩ K)
    (h2 : b = want' → vops P Z wr ops rest ⟨(d, .undef) :: (t, .p (.bool want')) :: env, h, nx'⟩ K) : vops P Z wr ops (o :: rest) ⟨env, h, nx⟩ K := by
  subst hn; subst hw
  unfold vops at h1 ⊢
  rw [hg, hd]
  simp only [hgo]
  refine ⟨fun h => ?_, h2⟩
  simpa only [vop, astep] using h1 h

theorem vs_call (hg : o.guard = none) (hop : o.op = .call c) (hcx : c.callee = .value x) (hev : ev env x = .fn f first cap)
    (hk : VCall P f (first ++ c.args.toList.map (ev env) ++ cap) ⟨env, h, nx⟩ fun v s' => vops P Z wr ops rest ⟨put s'.env o.dst v, s'.heap, s'.nx + 1⟩ K) : vops P Z wr ops (o :: rest) ⟨env, h, nx⟩ K := by
  unfold vops
  rw [hg]
  unfold vop
  simp only [hop, hcx, hev]
  exact hk

theorem vs_pure (hg : o.guard = none) (hop : o.op = .call c) (hcx : c.callee = .value x) (hev : ev env x = .fn f first cap) (hd : o.dst = some d) (ha : toPs h (first ++ c.args.toList.map (ev env) ++ cap) = some pargs)
    (hc : APure P false f pargs r) (hr : ofP r = v) (hn : nx + 1 = nx') (hk : vops P Z wr ops rest ⟨(d, v) :: env, h, nx'⟩ K) : vops P Z wr ops (o :: rest) ⟨env, h, nx⟩ K := by
  subst hn; subst hr
  exact vs_call hg hop hcx hev (.pure _ _ ha hc (by rw [hd]; exact hk))

theorem vs_new (hg : o.guard = none) (hop : o.op = .call c) (hcx : c.callee = .value x) (hev : ev env x = .fn f first cap) (hd : o.dst = some d) (ha : toPs h (first ++ c.args.toList.map (ev env) ++ cap) = some pargs)
    (hc : ANew P false f pargs rv bs) (hp : plainA rv = true) (hr : shA nx rv = v) (hh : addB nx bs h = h') (hn : nx + bs.length + 1 = nx') (hk : vops P Z wr ops rest ⟨(d, v) :: env, h', nx'⟩ K) : vops P Z wr ops (o :: rest) ⟨env, h, nx⟩ K := by
  subst hn; subst hr; subst hh
  exact vs_call hg hop hcx hev (.new false _ _ _ ha hp hc (by rw [hd]; exact hk))

theorem vs_inl (hg : o.guard = none) (hop : o.op = .call c) (hcx : c.callee = .value x) (hev : ev env x = .fn f first cap) (ha : first ++ c.args.toList.map (ev env) ++ cap = args)
    (hk : AIn P f args ⟨env, h, nx⟩ fun v s' => vops P Z wr ops rest ⟨put s'.env o.dst v, s'.heap, s'.nx + 1⟩ K) : vops P Z wr ops (o :: rest) ⟨env, h, nx⟩ K := by
  subst ha
  exact vs_call hg hop hcx hev (.inl hk)

theorem vs_yield (hg : o.guard = none) (hop : o.op = .call c) (hcx : c.callee = .value x) (hev : ev env x = .yld id) (ha : c.args.toList.map (ev env) = args)
    (hk : ARd P id args ⟨env, h, nx⟩ fun v s' => vops P Z wr ops rest ⟨put s'.env o.dst v, s'.heap, s'.nx + 1⟩ K) : vops P Z wr ops (o :: rest) ⟨env, h, nx⟩ K := by
  subst ha
  unfold vops
  rw [hg]
  unfold vop
  simp only [hop, hcx, hev]
  exact hk

/-! ### in a region that draws -/
variable {KD : St → List Foot → Prop} {fs fs' : List Foot}

theorem vopD_plain {s : St} {KD : St → List Nat → List Nat → Prop} (hc : isVal o = false) {q : Res} (e : astep P Z wr s.env s.heap nid o = some q) (hv : q.vc) (hk : KD ⟨put s.env o.dst q.v, q.heap, s.nx⟩ (lkOf s.env nid o) (chOf s.env nid o)) : vopD P Z wr o s nid KD := by
  unfold vopD
  unfold isVal at hc
  split
  · rename_i c ho
    rw [ho] at hc
    split
    · rw [e]; exact ⟨hv, hk⟩
    · rename_i x hx; simp [hx] at hc
    · rename_i h1 h2
      cases hb : c.callee with
      | builtin b => exact absurd hb (h1 b)
      | _ => simp [hb] at hc
  · rw [e]; exact ⟨hv, hk⟩

theorem vd_nil {s : St} (h : KD s fs) : vopsD P Z wr ops [] nid s fs KD := h

theorem vd_some (hg : o.guard = none) (hc : isVal o = false) (hd : o.dst = some d) (e : astep P Z wr env h nid o = some ⟨vc, v, h'⟩) (hn : nid + 1 = nid') (hf : fs ++ [(lkOf env nid o, chOf env nid o)] = fs') (hv : vc) (hk : vopsD P Z wr ops rest nid' ⟨(d, v) :: env, h', nx⟩ fs' KD) :
    vopsD P Z wr ops (o :: rest) nid ⟨env, h, nx⟩ fs KD := by
  subst hn; subst hf
  unfold vopsD
  rw [hg]
  exact vopD_plain hc e hv (by rw [hd]; exact hk)

theorem vd_none (hg : o.guard = none) (hc : isVal o = false) (hd : o.dst = none) (e : astep P Z wr env h nid o = some ⟨vc, v, h'⟩) (hn : nid + 1 = nid') (hf : fs ++ [(lkOf env nid o, chOf env nid o)] = fs') (hv : vc) (hk : vopsD P Z wr ops rest nid' ⟨env, h', nx⟩ fs' KD) :
    vopsD P Z wr ops (o :: rest) nid ⟨env, h, nx⟩ fs KD := by
  subst hn; subst hf
  unfold vopsD
  rw [hg]
  exact vopD_plain hc e hv (by rw [hd]; exact hk)

theorem vd_gt (hg : o.guard = some (j, want)) (hgo : guardOf ops env j = some (t, want)) (hk : vopsD P Z wr ops ({ o with guard := none } :: rest) nid ⟨(t, .p (.bool want)) :: env, h, nx⟩ fs KD) : vopsD P Z wr ops (o :: rest) nid ⟨env, h, nx⟩ fs KD := by
  unfold vopsD at hk ⊢
  rw [hg]
  simp only [hgo, true_implies]
  refine ⟨?_, fun h => absurd h (by cases want <;> simp)⟩
  simpa only [vopD, astep, lkOf, chOf] using hk

theorem vd_gf (hg : o.guard = some (j, want)) (hd : o.dst = some d) (hgo : guardOf ops env j = some (t, !want)) (hn : nid + 1 = nid') (hf : fs ++ [([], [])] = fs') (hk : vopsD P Z wr ops rest nid' ⟨(d, .undef) :: (t, .p (.bool (!want))) :: env, h, nx⟩ fs' KD) : vopsD P Z wr ops (o :: rest) nid ⟨env, h, nx⟩ fs KD := by
  subst hn; subst hf
  unfold vopsD
  rw [hg, hd]
  simp only [hgo]
  exact ⟨fun h => absurd h (by cases want <;> simp), fun _ => hk⟩

theorem vd_g {want' : Bool} (hg : o.guard = some (j, want)) (hd : o.dst = some d) (hgo : guardOf ops env j = some (t, b)) (hw : (!want) = want') (hn : nid + 1 = nid') (hf : fs ++ [([], [])] = fs') (h1 : b = want → vopsD P Z wr ops ({ o with guard := none } :: rest) nid ⟨(t, .p (.bool want)) :: env, h, nx⟩ fs KD)
    (h2 : b = want' → vopsD P Z wr ops rest nid' ⟨(d, .undef) :: (t, .p (.bool want')) :: env, h, nx⟩ fs' KD) : vopsD P Z wr ops (o :: rest) nid ⟨env, h, nx⟩ fs KD := by
  subst hn; subst hf; subst hw
  unfold vopsD at h1 ⊢
  rw [hg, hd]
  simp only [hgo]
  refine ⟨fun h => ?_, h2⟩
  simpa only [vopD, astep, lkOf, chOf] using h1 h

theorem vd_call (hg : o.guard = none) (hop : o.op = .call c) (hcx : c.callee = .value x) (hev : ev env x = .fn f first cap)
    (hk : VCallD P f (first ++ c.args.toList.map (ev env) ++ cap) h nid fun v h' lk ch => vopsD P Z wr ops rest (nid + 1) ⟨put env o.dst v, h', nx⟩ (fs ++ [(lk, ch)]) KD) : vopsD P Z wr ops (o :: rest) nid ⟨env, h, nx⟩ fs KD := by
  unfold vopsD
  rw [hg]
  unfold vopD
  simp only [hop, hcx, hev]
  exact hk

theorem vd_pure (hg : o.guard = none) (hop : o.op = .call c) (hcx : c.callee = .value x) (hev : ev env x = .fn f first cap) (hd : o.dst = some d) (ha : toPs h (first ++ c.args.toList.map (ev env) ++ cap) = some pargs)
    (hc : APure P false f pargs r) (hr : ofP r = v) (hn : nid + 1 = nid') (hf : fs ++ [(idsAs (first ++ c.args.toList.map (ev env) ++ cap), [])] = fs') (hk : vopsD P Z wr ops rest nid' ⟨(d, v) :: env, h, nx⟩ fs' KD) : vopsD P Z wr ops (o :: rest) nid ⟨env, h, nx⟩ fs KD := by
  subst hn; subst hr; subst hf
  exact vd_call hg hop hcx hev (.pure _ _ ha hc (by rw [hd]; exact hk))

theorem vd_new (hg : o.guard = none) (hop : o.op = .call c) (hcx : c.callee = .value x) (hev : ev env x = .fn f first cap) (hd : o.dst = some d) (ha : toPs h (first ++ c.args.toList.map (ev env) ++ cap) = some pargs)
    (hc : ANew P false f pargs rv bs) (hp : plainA rv = true) (hl : bs.length ≤ 1) (hr : shA nid rv = v) (hh : addB nid bs h = h') (hn : nid + 1 = nid') (hf : fs ++ [(nid :: idsAs (first ++ c.args.toList.map (ev env) ++ cap), [nid])] = fs')
    (hk : vopsD P Z wr ops rest nid' ⟨(d, v) :: env, h', nx⟩ fs' KD) : vopsD P Z wr ops (o :: rest) nid ⟨env, h, nx⟩ fs KD := by
  subst hn; subst hr; subst hh; subst hf
  exact vd_call hg hop hcx hev (.new false _ _ _ ha hp hl hc (by rw [hd]; exact hk))

variable {N : Nat} {rd : Bool}
/-- a region that draws, with its last number -/
theorem AWP.region_d (hz : ZOk P Z) (wr : Bool) (hm : P.follows .mixedOrders = true) {id : Nat} {l : List Oper} {Q : Exit → St → Prop} (hd : dstOk N l = true) (hn : nx + l.length = nx')
    (h : vopsD P Z wr l.toArray l nx ⟨env, h', nx⟩ [] (fun s' fs => okD l.toArray fs = true ∧ Q .normal ⟨s'.env, s'.heap, nx'⟩)) : AWP P N rd (.region id l.toArray true) ⟨env, h', nx⟩ Q := by
  subst hn
  exact AWP.region_draw hz wr hm hd h

/-! ### calls that are walked in place; ranges over functions; rounds -/
theorem AIn.go {fn : Func} {c : Code} {env1 : List (Nat × AV)} {nx1 : Nat} {rs : List ResultVar} {KA : AV → St → Prop} (hf : P.funcs[f]? = some fn) (hb : fn.body = some c) (hname : (fn.name == "runtime.NumGoroutine") = false) (hrs : fn.results.toList = rs) (hN : fn.ntmps = N) (hlen : args.length ≤ N)
    (ha : argEnvA 0 args = env1) (hn : nx + 1 = nx1)
    (hk : AWP P N false c ⟨env1, (nx, .frame env) :: h, nx1⟩ (fun e s2 => (e = .ret ∨ e = .normal) ∧ ∃ v, ares P rs s2 = some v ∧ hlook s2.heap nx = some (.frame env) ∧ KA v ⟨env, hdel s2.heap nx, s2.nx⟩)) : AIn P f args ⟨env, h, nx⟩ KA := by
  subst ha; subst hn
  exact AIn.of_AWP hf hb hname hrs hN hlen hk

theorem AWP.rangeF {go : Operand} {ps : Array Nat} {assign body : Code} {Q : Exit → St → Prop} (hev : ev env go = .fn f first cap) (ha : first ++ [.yld nx] ++ cap = args) (hn : nx + 1 = nx')
    (hk : AIn P f args ⟨env, (nx, .loop .ready none N env ps assign body) :: h, nx'⟩ (fun _ s2 => ∃ st pe, hlook s2.heap nx = some (.loop st pe N env ps assign body) ∧ st ≠ .busy ∧ ∃ e, jumpOf e = some pe ∧ Q e ⟨env, hdel s2.heap nx, s2.nx⟩)) :
    AWP P N false (.rangeFunc go ps assign body) ⟨env, h, nx⟩ Q := by
  subst ha; subst hn
  exact AWP.rangeFunc hev hk

theorem ARd.go {env1 lenv : List (Nat × AV)} {nx1 : Nat} {pe : Option Code} {n : Nat} {ps : Array Nat} {assign body : Code} {KA : AV → St → Prop} (hl : hlook h id = some (.loop .ready pe n lenv ps assign body)) (hlen : args.length = ps.size) (hps : ps.toList.all (fun p => decide (p < n)) = true)
    (he : (ps.toList.zip args).reverse ++ lenv = env1) (hn : nx + 1 = nx1)
    (hk : AWP P n true assign ⟨env1, (nx, .frame env) :: h, nx1⟩ (fun e s1 => e = .normal ∧ hlook s1.heap id = some (.loop .ready pe n lenv ps assign body) ∧
      AWP P n true body ⟨s1.env, hset s1.heap id (.loop .busy pe n lenv ps assign body), s1.nx⟩ (fun e s2 => ∃ j, jumpOf e = some j ∧ hlook s2.heap id = some (.loop .busy pe n lenv ps assign body) ∧ hlook s2.heap nx = some (.frame env) ∧
        KA (.p (.bool j.isNone)) ⟨env, hdel (hset s2.heap id (.loop (if j.isNone then .ready else .done) j n lenv ps assign body)) nx, s2.nx⟩))) : ARd P id args ⟨env, h, nx⟩ KA := by
  subst he; subst hn
  exact ARd.of_AWP hl hlen hps hk

/-- those temporaries alone -/
def memN : List Nat → Nat → Bool
  | [], _ => false
  | a :: r, t => if a = t then true else memN r t
def keepE (ks : List Nat) : List (Nat × AV) → List (Nat × AV)
  | [] => []
  | (t, v) :: r => bif memN ks t then (t, v) :: keepE ks r else keepE ks r

def hput (h : Heap) (i : Nat) (b : ABlk) : Heap :=
  match hlook h i with
  | some _ => hset h i b
  | none => (i, b) :: h
def setH : List (Nat × ABlk) → Heap → Heap
  | [], h => h
  | (i, b) :: r, h => setH r (hput h i b)

/-- a loop: what changes is said, all else stays -/
theorem AWP.loopu {α : Type} {c : Code} {Q : Exit → St → Prop} (ks : List Nat) (eu : α → List (Nat × AV)) (hu : α → List (Nat × ABlk)) (mu : α → Nat) (inv : α → Prop) (x0 : α) (h0 : inv x0)
    (hl : St.LE ⟨env, h, nx⟩ ⟨eu x0 ++ keepE ks env, setH (hu x0) h, nx⟩)
    (hr : ∀ x, inv x → ∀ e1 h1, eu x ++ keepE ks env = e1 → setH (hu x) h = h1 → AWP P N rd c ⟨e1, h1, nx⟩ (thenQ (fun s' => ∃ y, inv y ∧ mu y < mu x ∧ St.LE s' ⟨eu y ++ keepE ks env, setH (hu y) h, nx⟩) Q)) : AWP P N rd (.loop c) ⟨env, h, nx⟩ Q :=
  AWP.loopk (fun x => ⟨eu x ++ keepE ks env, setH (hu x) h, nx⟩) mu inv x0 h0 hl (fun x hx => hr x hx _ _ rfl rfl)

end
theorem APure.le {P : Program} {sh : Bool} {f : FuncId} {args args' : List PV} {r : PV} (hl : leL args' args) (h : APure P sh f args' r) : APure P sh f args r :=
  ⟨h.1, fun I w vals hI hR => h.2 I w vals hI (leL_reps _ _ _ hl hR)⟩
theorem ANew.le {P : Program} {sh : Bool} {f : FuncId} {args args' : List PV} {rv : AV} {bs : List ABlk} (hl : leL args' args) (h : ANew P sh f args' rv bs) : ANew P sh f args rv bs :=
  ⟨h.1, fun I w vals hI hR => h.2 I w vals hI (leL_reps _ _ _ hl hR)⟩
attribute [go_sem] hput memN keepE setH argEnvA leLL
end Go.Abs
