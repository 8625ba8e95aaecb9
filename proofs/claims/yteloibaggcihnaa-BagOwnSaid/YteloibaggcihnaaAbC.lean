/-
  The abstract machine: codes, calls, contracts.
-/
import Derived.Test.YteloibaggcihnaaAbB
import Derived.RangeFuncIn
import Derived.RangeFuncRecord
set_option linter.all false
set_option linter.unusedVariables false
set_option linter.unusedSimpArgs false

namespace Go.Abs
open Go Go.RowKit

def wideR (r : Option Nat) : Fence := { fn := fun _ => True, depth := none, alive := false, round := r }

theorem callsIn_wideR {r : Option Nat} {n : Nat} {P : Program} {f : FuncId} {args : Array Value} {w : World} {R : Ending → World → Prop} : CallsIn (wideR r) n P f args w R ↔ Calls P f args w R := callsIn_wide (n := n)

theorem room_wideR (r : Option Nat) (n : Nat) : (wideR r).room n := fun _ h => by simp [wideR] at h

/-- the ids in use -/
def Dn (s : St) : Nat → Nat → Prop := fun id m => id < s.nx ∧ ∀ e sz xs f fl, hlook s.heap id = some (.list e sz xs f fl) → m ≤ xs.length

theorem Dn_fresh (s : St) (m : Nat) : ¬ Dn s s.nx m := fun h => Nat.lt_irrefl _ h.1

/-- the marks among an activation's deferred calls -/
structure DlOk (ds : List Deferred) (I O : Nat → Prop) (w : World) : Prop where
  nd : ds.Nodup
  mark : ∀ d ∈ ds, ∃ r, d = { target := .collected r, args := #[] } ∧ w.heap[r]? = some (.deferred (some [])) ∧ ¬ I r ∧ ¬ O r

theorem DlOk.nil (I O : Nat → Prop) (w : World) : DlOk [] I O w := ⟨List.nodup_nil, fun d h => by cases h⟩

theorem DlOk.fr {ds : List Deferred} {I O : Nat → Prop} {w : World} {I' O' : Nat → Prop} {w' : World} (h : DlOk ds I O w) (f : Fr I O w I' O' w') : DlOk ds I' O' w' := by
  refine ⟨h.nd, fun d hd => ?_⟩
  obtain ⟨r, e, hr, hi, ho⟩ := h.mark d hd
  have hlt : r < w.heap.size := (Array.getElem?_eq_some_iff.1 hr).1
  refine ⟨r, e, (f.same r hlt ho).trans hr, fun hi' => ?_, fun ho' => ?_⟩
  · rcases f.inew r hi' with h | h | h
    · exact hi h
    · exact ho h
    · omega
  · rcases f.own r ho' with h | h
    · exact ho h
    · omega

/-- marks are of old, or new -/
def DlNew (dl : List Deferred) (w : World) (ds : List Deferred) : Prop := ∀ r, ({ target := .collected r, args := #[] } : Deferred) ∈ ds → ({ target := .collected r, args := #[] } : Deferred) ∈ dl ∨ w.heap.size ≤ r

theorem DlNew.refl (dl : List Deferred) (w : World) : DlNew dl w dl := fun _ h => .inl h

/-- the model's post of an abstract one -/
def Post (N : Nat) (I O : Nat → Prop) (g : Gh) (w : World) (dl : List Deferred) (Q : Exit → St → Prop) : Exit → Act → World → Prop := fun e a' w' =>
  ∃ s' I' g', Q e s' ∧ a'.tmps.size = N ∧ (DlOk a'.defers I' (Owned g' s'.heap) w' ∧ DlNew dl w a'.defers) ∧ StOk (Dn s') I' g' w' a' s' ∧ Fr I O w I' (Owned g' s'.heap) w' ∧ Gh.kp g g'

/-- WHAT IS SHOWN OF A CODE: from every state that stands for the abstract one; 'rd': within a round of a range over a function? -/
def AWP (P : Program) (N : Nat) (rd : Bool) (c : Code) (s : St) (Q : Exit → St → Prop) : Prop :=
  ∀ (r : Option Nat) (n : Nat) (I : Nat → Prop) (g : Gh) (w : World) (a : Act), (rd = false → r = none) → a.tmps.size = N → DlOk a.defers I (Owned g s.heap) w → StOk (Dn s) I g w a s →
    c.wpIn (wideR r) n P (Post N I (Owned g s.heap) g w a.defers Q) a w

section
variable {P : Program} {Z : Zeros} {wr rd : Bool} {N : Nat}

theorem AWP.mono {c : Code} {s : St} {Q Q' : Exit → St → Prop} (h : AWP P N rd c s Q) (hq : ∀ e s, Q e s → Q' e s) : AWP P N rd c s Q' :=
  fun r n I g w a hr hN hd ok => wpIn_mono (h r n I g w a hr hN hd ok) fun e a' w' ⟨s', I', g', q, rest⟩ => ⟨s', I', g', hq _ _ q, rest⟩

theorem Post.trans {I O : Nat → Prop} {g : Gh} {w : World} {dl dl1 : List Deferred} {Q : Exit → St → Prop} {I1 O1 : Nat → Prop} {g1 : Gh} {w1 : World} (f : Fr I O w I1 O1 w1) (k : Gh.kp g g1) (d : DlNew dl w dl1) {e : Exit} {a : Act} {w2 : World}
    (h : Post N I1 O1 g1 w1 dl1 Q e a w2) : Post N I O g w dl Q e a w2 := by
  obtain ⟨s', I', g', q, hn, hd, ok, fr, kp⟩ := h
  refine ⟨s', I', g', q, hn, ⟨hd.1, fun r hr => ?_⟩, ok, f.trans fr, k.trans kp⟩
  rcases hd.2 r hr with h | h
  · exact d r h
  · exact .inr (Nat.le_trans f.below.size h)

theorem AWP.skip {s : St} {Q : Exit → St → Prop} (h : Q .normal s) : AWP P N rd .skip s Q :=
  fun _ _ I g _ _ _ hN hd ok => wpIn_skip ⟨s, I, g, h, hN, ⟨hd, DlNew.refl _ _⟩, ok, Fr.refl _ _ _, Gh.kp.refl _⟩
theorem AWP.ret {s : St} {Q : Exit → St → Prop} (h : Q .ret s) : AWP P N rd .ret s Q :=
  fun _ _ I g _ _ _ hN hd ok => wpIn_ret ⟨s, I, g, h, hN, ⟨hd, DlNew.refl _ _⟩, ok, Fr.refl _ _ _, Gh.kp.refl _⟩
theorem AWP.exit {s : St} {id : Nat} {Q : Exit → St → Prop} (h : Q (.exit id) s) : AWP P N rd (.exit id) s Q :=
  fun _ _ I g _ _ _ hN hd ok => wpIn_exit ⟨s, I, g, h, hN, ⟨hd, DlNew.refl _ _⟩, ok, Fr.refl _ _ _, Gh.kp.refl _⟩
theorem AWP.label {s : St} {l : Nat} {Q : Exit → St → Prop} (h : Q .normal s) : AWP P N rd (.label l) s Q :=
  fun _ _ I g _ _ _ hN hd ok => wpIn_label ⟨s, I, g, h, hN, ⟨hd, DlNew.refl _ _⟩, ok, Fr.refl _ _ _, Gh.kp.refl _⟩
theorem AWP.goto {s : St} {l : Nat} {Q : Exit → St → Prop} (h : Q (.goto l) s) : AWP P N rd (.goto l) s Q :=
  fun _ _ I g _ _ _ hN hd ok => wpIn_goto ⟨s, I, g, h, hN, ⟨hd, DlNew.refl _ _⟩, ok, Fr.refl _ _ _, Gh.kp.refl _⟩

/-- the first of two codes: K is what follows -/
def thenQ (K : St → Prop) (Q : Exit → St → Prop) : Exit → St → Prop
  | .normal, s => K s
  | e, s => Q e s

theorem AWP.seq {x y : Code} {s : St} {Q : Exit → St → Prop} (h : AWP P N rd x s (thenQ (fun s' => AWP P N rd y s' Q) Q)) : AWP P N rd (.seq x y) s Q := by
  intro r n I g w a hr hN hdl ok
  refine wpIn_seq (wpIn_mono (h r n I g w a hr hN hdl ok) ?_)
  rintro e a' w' ⟨s', I', g', q, hn, hd, ok', fr, kp⟩
  cases e with
  | normal => exact wpIn_mono (q r n I' g' w' a' hr hn hd.1 ok') fun e a2 w2 hp => Post.trans fr kp hd.2 hp
  | exit id => exact ⟨s', I', g', q, hn, hd, ok', fr, kp⟩
  | goto l => exact ⟨s', I', g', q, hn, hd, ok', fr, kp⟩
  | ret => exact ⟨s', I', g', q, hn, hd, ok', fr, kp⟩
  | panic c => exact ⟨s', I', g', q, hn, hd, ok', fr, kp⟩
  | outgrown => exact ⟨s', I', g', q, hn, hd, ok', fr, kp⟩

theorem AWP.seq_k {x y : Code} {s : St} {Q : Exit → St → Prop} (h : ∀ K : St → Prop, (∀ s', AWP P N rd y s' Q → K s') → AWP P N rd x s (thenQ K Q)) : AWP P N rd (.seq x y) s Q :=
  AWP.seq (h _ fun _ h => h)

def blockQ (id : Nat) (Q : Exit → St → Prop) : Exit → St → Prop
  | .exit id', s => if id' = id then Q .normal s else Q (.exit id') s
  | e, s => Q e s

theorem AWP.block {id : Nat} {c : Code} {s : St} {Q : Exit → St → Prop} (h : AWP P N rd c s (blockQ id Q)) : AWP P N rd (.block id c) s Q := by
  intro r n I g w a hr hN hdl ok
  refine wpIn_block (wpIn_mono (h r n I g w a hr hN hdl ok) ?_)
  rintro e a' w' ⟨s', I', g', q, rest⟩
  cases e with
  | exit id' =>
    simp only [blockQ] at q
    simp only [Exit.inBlock]
    split
    · rename_i hid; rw [if_pos hid] at q; exact ⟨s', I', g', q, rest⟩
    · rename_i hid; rw [if_neg hid] at q; exact ⟨s', I', g', q, rest⟩
  | normal => exact ⟨s', I', g', q, rest⟩
  | goto l => exact ⟨s', I', g', q, rest⟩
  | ret => exact ⟨s', I', g', q, rest⟩
  | panic c => exact ⟨s', I', g', q, rest⟩
  | outgrown => exact ⟨s', I', g', q, rest⟩

theorem AWP.cond {c : Operand} {x y : Code} {s : St} {Q : Exit → St → Prop} {t : Bool} (hc : ev s.env c = .p (.bool t)) (h1 : t = true → AWP P N rd x s Q) (h2 : t = false → AWP P N rd y s Q) : AWP P N rd (.cond c x y) s Q := by
  intro r n I g w a hro hN hdl ok
  have hr := (ev_rep (nx := s.nx) ok c).1
  rw [hc] at hr
  simp only [RA, R, List.cons.injEq, and_true] at hr
  exact wpIn_cond_split hr (fun e => h1 e r n I g w a hro hN hdl ok) (fun e => h2 e r n I g w a hro hN hdl ok)

/-- less is known -/
structure St.le (s s' : St) : Prop where
  env : ∀ t, look s'.env t = look s.env t ∨ look s'.env t = .undef
  on : ∀ t, (look s'.env t).on (Dn s')
  heap : ∀ id x, hlook s'.heap id = some x → hlook s.heap id = some x
  bon : ∀ id x, hlook s'.heap id = some x → x.on (Dn s') id

theorem St.le.refl_of {s : St} {I g w a} (ok : StOk (Dn s) I g w a s) : St.le s s := ⟨fun _ => .inl rfl, ok.on, fun _ _ h => h, ok.heap.dom⟩

/-! ### 'less is known', to be worked out -/
def leE (e : List (Nat × AV)) : List (Nat × AV) → Prop
  | [] => True
  | (t, v) :: r => look e t = v ∧ leE e r
def leH (h : Heap) : Heap → Prop
  | [] => True
  | (i, b) :: r => hlook h i = some b ∧ leH h r
def lenOk (h : Heap) (id n : Nat) : Prop :=
  match hlook h id with
  | some (.list _ _ xs _ _) => n ≤ xs.length
  | _ => True
mutual
def onA (nx : Nat) (h : Heap) : AV → Prop
  | .p _ => True
  | .hs id n => id < nx ∧ lenOk h id n
  | .ptr id _ => id < nx
  | .eptr id n _ _ _ => id < nx ∧ lenOk h id n
  | .aptr id _ _ => id < nx
  | .fn _ a b => onAs nx h a ∧ onAs nx h b
  | .yld id => id < nx
  | .agg cs => onAs nx h cs
  | .tup cs => onAs nx h cs
  | .undef => True
def onAs (nx : Nat) (h : Heap) : List AV → Prop
  | [] => True
  | c :: cs => onA nx h c ∧ onAs nx h cs
end
def onE (nx : Nat) (h : Heap) : List (Nat × AV) → Prop
  | [] => True
  | (_, v) :: r => onA nx h v ∧ onE nx h r
def onB (nx : Nat) (h : Heap) (i : Nat) : ABlk → Prop
  | .var cs => i < nx ∧ onAs nx h cs
  | .list _ _ xs _ _ => i < nx ∧ lenOk h i xs.length
  | .loop _ _ _ env _ _ _ => i < nx ∧ onE nx h env
  | .frame env => i < nx ∧ onE nx h env
  | .rvar _ => i < nx
def onH (nx : Nat) (h : Heap) : Heap → Prop
  | [] => True
  | (i, b) :: r => onB nx h i b ∧ onH nx h r

theorem leE_spec {e : List (Nat × AV)} : ∀ {e' : List (Nat × AV)}, leE e e' → ∀ t, look e' t = look e t ∨ look e' t = .undef
  | [], _, _ => .inr rfl
  | (i, v) :: r, h, t => by
    simp only [leE] at h
    simp only [look]
    split
    · rename_i e1; subst e1; exact .inl h.1.symm
    · exact leE_spec h.2 t
theorem leH_spec {h : Heap} : ∀ {h' : Heap}, leH h h' → ∀ id x, hlook h' id = some x → hlook h id = some x
  | [], _, _, _, hx => by simp [hlook] at hx
  | (i, b) :: r, hl, id, x, hx => by
    simp only [leH] at hl
    simp only [hlook] at hx
    split at hx
    · rename_i e; subst e; cases hx; exact hl.1
    · exact leH_spec hl.2 id x hx
theorem lenOk_spec {s : St} {id n : Nat} (h1 : id < s.nx) (h2 : lenOk s.heap id n) : Dn s id n := by
  refine ⟨h1, fun e sz xs f fl hx => ?_⟩
  unfold lenOk at h2
  rw [hx] at h2
  exact h2
theorem Dn_zero {s : St} {id : Nat} (h1 : id < s.nx) : Dn s id 0 := ⟨h1, fun _ _ _ _ _ _ => Nat.zero_le _⟩
mutual
theorem onA_spec {s : St} : ∀ (c : AV), onA s.nx s.heap c → c.on (Dn s)
  | .p _, _ => by simp only [AV.on]
  | .hs _ _, h => by simp only [onA] at h; simp only [AV.on]; exact lenOk_spec h.1 h.2
  | .ptr _ _, h => by simp only [onA] at h; simp only [AV.on]; exact Dn_zero h
  | .eptr _ _ _ _ _, h => by simp only [onA] at h; simp only [AV.on]; exact lenOk_spec h.1 h.2
  | .aptr _ _ _, h => by simp only [onA] at h; simp only [AV.on]; exact Dn_zero h
  | .fn _ a b, h => by simp only [onA] at h; simp only [AV.on]; exact ⟨onAs_spec a h.1, onAs_spec b h.2⟩
  | .yld _, h => by simp only [onA] at h; simp only [AV.on]; exact Dn_zero h
  | .agg cs, h => by simp only [onA] at h; simp only [AV.on]; exact onAs_spec cs h
  | .tup cs, h => by simp only [onA] at h; simp only [AV.on]; exact onAs_spec cs h
  | .undef, _ => by simp only [AV.on]
theorem onAs_spec {s : St} : ∀ (cs : List AV), onAs s.nx s.heap cs → AV.ons (Dn s) cs
  | [], _ => by simp only [AV.ons]
  | c :: cs, h => by simp only [onAs] at h; simp only [AV.ons]; exact ⟨onA_spec c h.1, onAs_spec cs h.2⟩
end
theorem onE_spec {s : St} : ∀ {e : List (Nat × AV)}, onE s.nx s.heap e → ∀ t, (look e t).on (Dn s)
  | [], _, t => by simp only [look, AV.on]
  | (i, v) :: r, h, t => by
    simp only [onE] at h
    simp only [look]
    split
    · exact onA_spec v h.1
    · exact onE_spec h.2 t
theorem onB_spec {s : St} {id : Nat} {x : ABlk} (h : onB s.nx s.heap id x) (hx : hlook s.heap id = some x) : x.on (Dn s) id := by
  cases x with
  | var cs => exact ⟨Dn_zero h.1, onAs_spec _ h.2⟩
  | list e sz xs f fl => exact ⟨lenOk_spec h.1 h.2, fun m hm => hm.2 _ _ _ _ _ hx⟩
  | loop st pe n0 env ps x y => exact ⟨Dn_zero h.1, onE_spec h.2⟩
  | frame env => exact ⟨Dn_zero h.1, onE_spec h.2⟩
  | rvar cells => exact Dn_zero h
theorem onH_spec {s : St} : ∀ {h : Heap}, onH s.nx s.heap h → ∀ id x, hlook h id = some x → onB s.nx s.heap id x
  | [], _, _, _, hx => by simp [hlook] at hx
  | (i, b) :: r, h, id, x, hx => by
    simp only [onH] at h
    simp only [hlook] at hx
    split at hx
    · rename_i e; subst e; cases hx; exact h.1
    · exact onH_spec h.2 id x hx

theorem St.le_of {s s' : St} (h1 : leE s.env s'.env) (h2 : leH s.heap s'.heap) (h3 : onE s'.nx s'.heap s'.env) (h4 : onH s'.nx s'.heap s'.heap) : St.le s s' :=
  ⟨leE_spec h1, onE_spec h3, leH_spec h2, fun id x hx => onB_spec (onH_spec h4 id x hx) hx⟩

theorem StOk.weaken {s s' : St} {I g w a} (ok : StOk (Dn s) I g w a s) (h : St.le s s') : StOk (Dn s') I g w a s' ∧ ∀ b, Owned g s'.heap b → Owned g s.heap b := by
  refine ⟨⟨fun t => ?_, h.on, ⟨fun id x hx => ok.heap.blk id x (h.heap id x hx), fun id id' x x' k hne hx hx' => ok.heap.sep id id' x x' k hne (h.heap _ _ hx) (h.heap _ _ hx'), h.bon, ok.heap.new⟩, ok.small⟩, ?_⟩
  · rcases h.env t with e | e
    · rw [e]; exact ok.env t
    · rw [e]; simp only [RA]; exact ⟨_, rfl⟩
  · rintro b ⟨id, x, hx, hop, hb⟩
    exact ⟨id, x, h.heap id x hx, hop, hb⟩

theorem Fr.weaken {I O : Nat → Prop} {w : World} {O' : Nat → Prop} (h : ∀ b, O' b → O b) : Fr I O w I O' w := ⟨Below.refl _ _, fun _ _ _ => rfl, fun b hb => .inl (h b hb), fun _ h => .inl h, fun _ h => h, CF.refl _⟩

/-- what stands for s stands for s0 (ids may turn) -/
def St.LE (s s0 : St) : Prop := ∀ (I : Nat → Prop) (g : Gh) (w : World) (a : Act), StOk (Dn s) I g w a s → ∃ g0, StOk (Dn s0) I g0 w a s0 ∧ (∀ b, Owned g0 s0.heap b → Owned g s.heap b) ∧ Gh.kp g g0

theorem St.le.LE {s s' : St} (h : St.le s s') : St.LE s s' := fun _ g _ _ ok => ⟨g, (ok.weaken h).1, (ok.weaken h).2, Gh.kp.refl g⟩

theorem AWP.weaken {c : Code} {s s' : St} {Q : Exit → St → Prop} (hl : St.LE s s') (h : AWP P N rd c s' Q) : AWP P N rd c s Q := by
  intro r n I g w a hr hN hdl ok
  obtain ⟨g0, ok', ho, kp⟩ := hl I g w a ok
  refine wpIn_mono (h r n I g0 w a hr hN (hdl.fr (Fr.weaken ho)) ok') fun e a' w' hp => Post.trans (Fr.weaken ho) kp (DlNew.refl _ _) hp

/-- at a cut: the state behind is only known as M says -/
theorem AWP.cut {x y : Code} {s : St} {Q : Exit → St → Prop} (M : St → Prop) (h1 : AWP P N rd x s (thenQ (fun s' => ∃ s0, St.LE s' s0 ∧ M s0) Q)) (h2 : ∀ s0, M s0 → AWP P N rd y s0 Q) : AWP P N rd (.seq x y) s Q := by
  refine AWP.seq (h1.mono fun e s' q => ?_)
  cases e with
  | normal => obtain ⟨s0, hl, hm⟩ := q; exact AWP.weaken hl (h2 s0 hm)
  | _ => exact q

theorem least {p : Nat → Prop} (h : ∃ k, p k) : ∃ k, p k ∧ ∀ m, p m → k ≤ m := by
  obtain ⟨k, hk⟩ := h
  induction k using Nat.strongRecOn with
  | _ k ih =>
    by_cases hm : ∃ m, m < k ∧ p m
    · obtain ⟨m, hlt, hp⟩ := hm
      exact ih m hlt hp
    · exact ⟨k, hk, fun m hp => Nat.le_of_not_lt fun hlt => hm ⟨m, hlt, hp⟩⟩

/-- a loop: 'J n s0' holds at every round's head, n falls -/
theorem AWP.loop {c : Code} {s : St} {Q : Exit → St → Prop} (J : Nat → St → Prop) (h0 : ∃ n s0, St.LE s s0 ∧ J n s0)
    (hr : ∀ n s0, J n s0 → AWP P N rd c s0 (thenQ (fun s' => ∃ m s1, m < n ∧ St.LE s' s1 ∧ J m s1) Q)) : AWP P N rd (.loop c) s Q := by
  intro r n I g w a hro hN hdl ok
  obtain ⟨k0, s0, hl, hj⟩ := h0
  obtain ⟨g00, ok0, ho0, kp0⟩ := hl I g w a ok
  let Inv : Act → World → Nat → Prop := fun a' w' k => ∃ s' I' g', J k s' ∧ a'.tmps.size = N ∧ (DlOk a'.defers I' (Owned g' s'.heap) w' ∧ DlNew a.defers w a'.defers) ∧ StOk (Dn s') I' g' w' a' s' ∧ Fr I (Owned g s.heap) w I' (Owned g' s'.heap) w' ∧ Gh.kp g g'
  classical
  let mu : Act → World → Nat := fun a' w' => if h : ∃ k, Inv a' w' k then (least h).choose else 0
  have hmu : ∀ a' w' k, Inv a' w' k → mu a' w' ≤ k := fun a' w' k hk => by
    have h : ∃ k, Inv a' w' k := ⟨k, hk⟩
    show (if h : ∃ k, Inv a' w' k then (least h).choose else 0) ≤ k
    rw [dif_pos h]
    exact (least h).choose_spec.2 k hk
  have hat : ∀ a' w', (∃ k, Inv a' w' k) → Inv a' w' (mu a' w') := fun a' w' h => by
    show Inv a' w' (if h : ∃ k, Inv a' w' k then (least h).choose else 0)
    rw [dif_pos h]
    exact (least h).choose_spec.1
  refine wpIn_loop (fun a' w' => ∃ k, Inv a' w' k) mu ⟨k0, s0, I, g00, hj, hN, ⟨hdl.fr (Fr.weaken ho0), DlNew.refl _ _⟩, ok0, Fr.weaken ho0, kp0⟩ fun a' w' hI => ?_
  obtain ⟨s', I', g', hj', hN', hd', ok', fr', kp'⟩ := hat a' w' hI
  refine wpIn_mono (hr _ s' hj' r n I' g' w' a' hro hN' hd'.1 ok') ?_
  intro e a2 w2 hp
  obtain ⟨s2, I2, g2, q, hN2, hd2, ok2, fr2, kp2⟩ := Post.trans (Fr.refl _ _ _) (Gh.kp.refl _) (DlNew.refl _ _) hp
  have hd3 : DlOk a2.defers I2 (Owned g2 s2.heap) w2 ∧ DlNew a.defers w a2.defers := ⟨hd2.1, fun r hr => (hd2.2 r hr).elim (hd'.2 r) fun h => .inr (Nat.le_trans fr'.below.size h)⟩
  cases e with
  | normal =>
    obtain ⟨m, s1, hlt, hle, hj1⟩ := q
    obtain ⟨g3, ok1, ho1, kp3⟩ := hle I2 g2 w2 a2 ok2
    have hinv : Inv a2 w2 m := ⟨s1, I2, g3, hj1, hN2, ⟨hd3.1.fr (Fr.weaken ho1), hd3.2⟩, ok1, fr'.trans (fr2.trans (Fr.weaken ho1)), kp'.trans (kp2.trans kp3)⟩
    exact ⟨⟨m, hinv⟩, Nat.lt_of_le_of_lt (hmu _ _ _ hinv) hlt⟩
  | exit id => exact ⟨s2, I2, g2, q, hN2, hd3, ok2, fr'.trans fr2, kp'.trans kp2⟩
  | goto l => exact ⟨s2, I2, g2, q, hN2, hd3, ok2, fr'.trans fr2, kp'.trans kp2⟩
  | ret => exact ⟨s2, I2, g2, q, hN2, hd3, ok2, fr'.trans fr2, kp'.trans kp2⟩
  | panic ch => exact ⟨s2, I2, g2, q, hN2, hd3, ok2, fr'.trans fr2, kp'.trans kp2⟩
  | outgrown => exact ⟨s2, I2, g2, q, hN2, hd3, ok2, fr'.trans fr2, kp'.trans kp2⟩

/-- a loop, by ghosts: 'st x' is the state at a round's head -/
theorem AWP.loopk {α : Type} {c : Code} {s : St} {Q : Exit → St → Prop} (st : α → St) (mu : α → Nat) (inv : α → Prop) (x0 : α) (h0 : inv x0) (hl : St.LE s (st x0))
    (hr : ∀ x, inv x → AWP P N rd c (st x) (thenQ (fun s' => ∃ y, inv y ∧ mu y < mu x ∧ St.LE s' (st y)) Q)) : AWP P N rd (.loop c) s Q := by
  refine AWP.loop (fun n s0 => ∃ x, n = mu x ∧ s0 = st x ∧ inv x) ⟨mu x0, st x0, hl, x0, rfl, rfl, h0⟩ ?_
  rintro n s0 ⟨x, rfl, rfl, hi⟩
  refine (hr x hi).mono fun e s' q => ?_
  cases e with
  | normal => obtain ⟨y, h1, h2, h3⟩ := q; exact ⟨mu y, st y, h2, h3, y, rfl, rfl, h1⟩
  | _ => exact q

/-! ### what a call hands back -/
theorem ofP1_rep {I : Nat → Prop} {g : Gh} {w : World} {c : PV} {v : Value} (h : R I w c [v]) : RA I g w (ofP.ofP1 c) [v] ∧ ∀ D, (ofP.ofP1 c).on D := by
  unfold ofP.ofP1
  split
  · simp only [R] at h
    obtain ⟨us, e, r⟩ := h
    refine ⟨by simp only [RA]; exact ⟨us, e, RAs_p r⟩, fun D => by simp only [AV.on]; exact ons_p _⟩
  · exact ⟨by simpa only [RA] using h, fun D => by simp only [AV.on]⟩

theorem ofP_rep {I : Nat → Prop} {g : Gh} {w : World} {c : PV} {v : Value} (h : R I w c [v]) : RA I g w (ofP c) [v] ∧ ∀ D, (ofP c).on D := by
  unfold ofP
  split
  · simp only [R] at h
    obtain ⟨us, e, r⟩ := h
    exact ⟨by simp only [RA]; exact ⟨us, e, RAs_p r⟩, fun D => by simp only [AV.on]; exact ons_p _⟩
  · simp only [R] at h
    obtain ⟨us, e, r⟩ := h
    have : ∀ (ps : List PV) (us : List Value), REs I w ps us → RAEs I g w (ps.map ofP.ofP1) us ∧ ∀ D, AV.ons D (ps.map ofP.ofP1) := by
      intro ps
      induction ps with
      | nil => intro us r; simp only [REs] at r; exact ⟨by simpa only [List.map_nil, RAEs] using r, fun D => by simp only [List.map_nil, AV.ons]⟩
      | cons p ps ih =>
        intro us r
        simp only [REs] at r
        obtain ⟨v, v2, rfl, r1, r2⟩ := r
        obtain ⟨h1, h2⟩ := ofP1_rep (g := g) r1
        obtain ⟨h3, h4⟩ := ih v2 r2
        simp only [List.map_cons, RAEs, AV.ons]
        exact ⟨⟨v, v2, rfl, h1, h3⟩, fun D => ⟨h2 D, h4 D⟩⟩
    obtain ⟨h1, h2⟩ := this _ _ r
    exact ⟨by simp only [RA]; exact ⟨us, e, h1⟩, fun D => by simp only [AV.on]; exact h2 D⟩
  · exact ⟨by simpa only [RA] using h, fun D => by simp only [AV.on]⟩

theorem pfun_run {f : FuncId} (h : pfun P f = true) (args : Array Value) (w : World) : (callFunc f args).run P w = .ok (.enter f args) w := by
  unfold pfun at h
  split at h
  · rename_i fn hf
    simp only [Bool.and_eq_true, Bool.not_eq_true'] at h
    obtain ⟨h1, h2⟩ := h
    have h2' : ¬ fn.name = "runtime.NumGoroutine" := by simpa using h2
    have h3 : ¬ fn.body = none := by cases hb : fn.body <;> simp_all
    simp [callFunc, hf, h2', h3]
  · cases h

/-- a call's arguments, as values that stay for its time -/
theorem lend {D I g w h} (ok : HOk D I g w h) (small : ∀ b, I b → b < w.heap.size) {cs : List AV} {ps : List PV} {vs : List Value} (e : toPs h cs = some ps) (r : RAEs I g w cs vs) :
    ∃ I', Tr D I g w h D I' g w (frzs h cs) ∧ REs I' w ps vs := frzs_reps cs ok small e r

/-- behind a call that wrote nothing -/
theorem Tr.called {D I g w h} (ok : HOk D I g w h) (small : ∀ b, I b → b < w.heap.size) {w' : World} (hb : Below w.heap.size w w') (hcf : CF w w') {J : Nat → Prop} (hJ : ∀ b, J b → b < w'.heap.size ∧ (w.heap.size ≤ b ∨ I b)) :
    Tr D I g w h D (fun b => I b ∨ J b) g w' h := by
  have so : SameOn I w w' := fun b hbI => hb.block b (small b hbI)
  refine ⟨⟨hb.mono (Nat.zero_le _), fun b hlt _ => hb.block b hlt, fun b h => .inl h, fun b h => ?_, fun b h => .inl h, hcf⟩, Gh.same.refl _ _, Gh.kp.refl _, fun _ _ h => h, ⟨fun id x hx => ?_, fun id id' x x' k hne hx hx' => ok.sep id id' x x' k hne hx hx', ok.dom, ok.new.step hcf hb.size⟩, fun b h => ?_⟩
  · rcases h with h | h
    · exact .inl h
    · rcases (hJ b h).2 with h1 | h1
      · exact .inr (.inr h1)
      · exact .inl h1
  · refine (ok.blk id x hx).mono (ok.dom id x hx) so (fun b h => .inl h) (Gh.same.refl _ _) (Gh.kp.refl _) (fun b hbo => hb.block b (ok.own_lt hx hbo)) (fun b hbo h => ?_)
    rcases h with h | h
    · exact h
    · rcases (hJ b h).2 with h1 | h1
      · have := ok.own_lt hx hbo; omega
      · exact h1
  · rcases h with h | h
    · exact Nat.lt_of_lt_of_le (small b h) hb.size
    · exact (hJ b h).1

theorem StOk.called {D I g w a s D' I' g' w' h'} (ok : StOk D I g w a s) (t : Tr D I g w s.heap D' I' g' w' h') : StOk D' I' g' w' a { s with heap := h' } :=
  ⟨fun t' => t.ra ok.heap ok.small (ok.on t') (ok.env t'), fun t' => AV.on_mono t.dd _ (ok.on t'), t.heap, t.small⟩

end
end Go.Abs

namespace Go.Abs
open Go Go.RowKit

mutual
/-- a value for another one (the first one is the one behind): nil for an empty list -/
def leP : PV → PV → Prop
  | .lst _ xs, .nil => xs = []
  | .lst sz xs, .lst sz' ys => sz = sz' ∧ leLL xs ys
  | .agg cs, .agg ds => leL cs ds
  | .tup cs, .tup ds => leL cs ds
  | q, p => q = p
def leL : List PV → List PV → Prop
  | [], [] => True
  | c :: cs, d :: ds => (c = d ∨ leP c d) ∧ leL cs ds
  | _, _ => False
def leLL : List (List PV) → List (List PV) → Prop
  | [], [] => True
  | x :: xs, y :: ys => (x = y ∨ leL x y) ∧ leLL xs ys
  | _, _ => False
end

theorem leLL_length : ∀ {xs ys : List (List PV)}, leLL xs ys → xs.length = ys.length
  | [], [], _ => rfl
  | [], _ :: _, h => by simp [leLL] at h
  | _ :: _, [], h => by simp [leLL] at h
  | _ :: xs, _ :: ys, h => by simp only [leLL] at h; simp [leLL_length h.2]

theorem leLL_refl : ∀ (xs : List (List PV)), leLL xs xs
  | [] => by simp only [leLL]
  | x :: xs => by simp only [leLL]; exact ⟨.inl trivial, leLL_refl xs⟩

theorem leLL_append : ∀ {xs ys us vs : List (List PV)}, leLL xs ys → leLL us vs → leLL (xs ++ us) (ys ++ vs)
  | [], [], _, _, _, k => by simpa using k
  | [], _ :: _, _, _, h, _ => by simp [leLL] at h
  | _ :: _, [], _, _, h, _ => by simp [leLL] at h
  | _ :: xs, _ :: ys, _, _, h, k => by simp only [leLL, List.cons_append] at h ⊢; exact ⟨h.1, leLL_append h.2 k⟩

theorem leLL_snoc {xs ys : List (List PV)} {x : List PV} {us : List (List PV)} (h : us = ys ++ [x]) (k : leL x x ∨ True) : leLL us us := leLL_refl us

section
variable {I : Nat → Prop} {w : World}
mutual
theorem leP_rep : ∀ (q p : PV) (vs : List Value), leP q p → R I w p vs → R I w q vs
  | .lst sz xs, p, vs, h, r => by
    cases p with
    | nil => simp only [leP] at h; subst h; simp only [R] at r ⊢; exact ⟨none, 0, r, Nat.le_refl _, by simp only [RLL]⟩
    | lst sz' ys =>
      simp only [leP] at h
      obtain ⟨rfl, h⟩ := h
      simp only [R] at r ⊢
      obtain ⟨a, cap, e, hl, r⟩ := r
      exact ⟨a, cap, by rw [leLL_length h]; exact e, by rw [leLL_length h]; exact hl, leLL_rep xs ys a sz 0 h r⟩
    | _ => simp [leP] at h
  | .agg cs, p, vs, h, r => by
    cases p with
    | agg ds =>
      simp only [leP] at h
      simp only [R] at r ⊢
      obtain ⟨us, e, r⟩ := r
      exact ⟨us, e, leL_rep cs ds _ h r⟩
    | _ => simp [leP] at h
  | .tup cs, p, vs, h, r => by
    cases p with
    | tup ds =>
      simp only [leP] at h
      simp only [R] at r ⊢
      obtain ⟨us, e, r⟩ := r
      exact ⟨us, e, leL_reps cs ds _ h r⟩
    | _ => simp [leP] at h
  | .bool _, p, vs, h, r => by cases p <;> simp only [leP] at h <;> (first | (rw [h]; exact r) | exact h.elim)
  | .int _ _, p, vs, h, r => by cases p <;> simp only [leP] at h <;> (first | (rw [h]; exact r) | exact h.elim)
  | .str _, p, vs, h, r => by cases p <;> simp only [leP] at h <;> (first | (rw [h]; exact r) | exact h.elim)
  | .nil, p, vs, h, r => by cases p <;> simp only [leP] at h <;> (first | (rw [h]; exact r) | exact h.elim | exact r)
  | .vptr _, p, vs, h, r => by cases p <;> simp only [leP] at h <;> (first | (rw [h]; exact r) | exact h.elim)
  | .nilptr, p, vs, h, r => by cases p <;> simp only [leP] at h <;> (first | (rw [h]; exact r) | exact h.elim | exact r)
  | .nilf, p, vs, h, r => by cases p <;> simp only [leP] at h <;> (first | (rw [h]; exact r) | exact h.elim | exact r)
  | .niface, p, vs, h, r => by cases p <;> simp only [leP] at h <;> (first | (rw [h]; exact r) | exact h.elim | exact r)
  | .iface _ _, p, vs, h, r => by cases p <;> simp only [leP] at h <;> (first | (rw [h]; exact r) | exact h.elim)
  | .arr _ _, p, vs, h, r => by cases p <;> simp only [leP] at h <;> (first | (rw [h]; exact r) | exact h.elim)
theorem leL_rep : ∀ (cs ds : List PV) (vs : List Value), leL cs ds → Rs I w ds vs → Rs I w cs vs
  | [], [], _, _, r => r
  | [], _ :: _, _, h, _ => by simp [leL] at h
  | _ :: _, [], _, h, _ => by simp [leL] at h
  | c :: cs, d :: ds, vs, h, r => by
    simp only [leL] at h
    simp only [Rs] at r ⊢
    obtain ⟨v1, v2, e, r1, r2⟩ := r
    refine ⟨v1, v2, e, ?_, leL_rep cs ds v2 h.2 r2⟩
    rcases h.1 with h | h
    · rw [h]; exact r1
    · exact leP_rep c d v1 h r1
theorem leL_reps : ∀ (cs ds : List PV) (vs : List Value), leL cs ds → REs I w ds vs → REs I w cs vs
  | [], [], _, _, r => r
  | [], _ :: _, _, h, _ => by simp [leL] at h
  | _ :: _, [], _, h, _ => by simp [leL] at h
  | c :: cs, d :: ds, vs, h, r => by
    simp only [leL] at h
    simp only [REs] at r ⊢
    obtain ⟨v1, v2, e, r1, r2⟩ := r
    refine ⟨v1, v2, e, ?_, leL_reps cs ds v2 h.2 r2⟩
    rcases h.1 with h | h
    · rw [h]; exact r1
    · exact leP_rep c d _ h r1
theorem leLL_rep : ∀ (xs ys : List (List PV)) (a : Option Addr) (sz i : Nat), leLL xs ys → RLL I w ys a sz i → RLL I w xs a sz i
  | [], [], _, _, _, _, r => r
  | [], _ :: _, _, _, _, h, _ => by simp [leLL] at h
  | _ :: _, [], _, _, _, h, _ => by simp [leLL] at h
  | x :: xs, y :: ys, a, sz, i, h, r => by
    simp only [leLL] at h
    simp only [RLL] at r ⊢
    obtain ⟨⟨ad, us, e, hi, hl, ha, r1⟩, r2⟩ := r
    refine ⟨⟨ad, us, e, hi, hl, ha, ?_⟩, leLL_rep xs ys a sz _ h.2 r2⟩
    rcases h.1 with h | h
    · rw [h]; exact r1
    · exact leL_rep x y us h r1
end

theorem leLL_RC {sz : Nat} : ∀ {xs ys : List (List PV)} {vals : List Value}, leLL xs ys → RC I w sz ys vals → RC I w sz xs vals
  | [], [], _, _, r => r
  | [], _ :: _, _, h, _ => by simp [leLL] at h
  | _ :: _, [], _, h, _ => by simp [leLL] at h
  | x :: xs, y :: ys, _, h, ⟨v1, v2, e, l, r1, r2⟩ => by
    simp only [leLL] at h
    refine ⟨v1, v2, e, l, ?_, leLL_RC h.2 r2⟩
    rcases h.1 with h | h
    · rw [h]; exact r1
    · exact leL_rep x y v1 h r1
end

mutual
/-- the same for what a function holds; σ: whence an id comes (none: a new empty list) -/
def leA (σ : Nat → Option Nat) : AV → AV → Prop
  | .undef, c => awd c = 1
  | .p q, .p p => q = p ∨ leP q p
  | .hs k n, .hs i m => σ k = some i ∧ n = m
  | .hs k n, .p .nil => σ k = none ∧ n = 0
  | .ptr k o, .ptr i o' => σ k = some i ∧ o = o'
  | .eptr k n sz j o, .eptr i n' sz' j' o' => σ k = some i ∧ n = n' ∧ sz = sz' ∧ j = j' ∧ o = o'
  | .aptr k o j, .aptr i o' j' => σ k = some i ∧ o = o' ∧ j = j'
  | .fn f a b, .fn f' a' b' => f = f' ∧ leAs σ a a' ∧ leAs σ b b'
  | .yld k, .yld i => σ k = some i
  | .agg cs, .agg ds => leAs σ cs ds
  | .tup cs, .tup ds => leAs σ cs ds
  | _, _ => False
def leAs (σ : Nat → Option Nat) : List AV → List AV → Prop
  | [], [] => True
  | c :: cs, d :: ds => leA σ c d ∧ leAs σ cs ds
  | _, _ => False
end

def leEn (σ : Nat → Option Nat) : List (Nat × AV) → List (Nat × AV) → Prop
  | [], _ => True
  | (t, v) :: r, e => (v = .undef ∨ leA σ v (look e t)) ∧ leEn σ r e

def leB (σ : Nat → Option Nat) (k i : Nat) : ABlk → ABlk → Prop
  | .var cs, .var ds => leAs σ cs ds
  | .list e sz xs f fl, .list e' sz' ys f' fl' => e = e' ∧ sz = sz' ∧ f = f' ∧ fl = fl' ∧ (xs = ys ∨ leLL xs ys)
  | .loop st pe n env ps x y, .loop st' pe' n' env' ps' x' y' => k = i ∧ st = st' ∧ pe = pe' ∧ n = n' ∧ ps = ps' ∧ x = x' ∧ y = y' ∧ leEn σ env env'
  | .frame env, .frame env' => k = i ∧ leEn σ env env'
  | _, _ => False

def leH1 (σ : Nat → Option Nat) (k : Nat) (x : ABlk) (h : Heap) : Prop :=
  match σ k with
  | none => match x with | .list _ _ xs false _ => xs = [] | _ => False
  | some i => match hlook h i with | some y => leB σ k i x y | none => False

def leHn (σ : Nat → Option Nat) : Heap → Heap → Prop
  | [], _ => True
  | (k, x) :: r, h => leH1 σ k x h ∧ leHn σ r h

def srcs (σ : Nat → Option Nat) : Heap → List Nat
  | [] => []
  | (k, _) :: r => match σ k with | some i => i :: srcs σ r | none => srcs σ r

def sg : List (Nat × Option Nat) → Nat → Option Nat
  | [], k => some k
  | (i, x) :: r, k => if i = k then x else sg r k

def Gh.from (g : Gh) (σ : Nat → Option Nat) : Gh :=
  { g with blk := fun k => match σ k with | some i => g.blk i | none => 0, hdr := fun k m => match σ k with | some i => g.hdr i m | none => .slice none 0 0 }

section
variable {D : Nat → Nat → Prop} {I : Nat → Prop} {g : Gh} {w : World} {σ : Nat → Option Nat}

mutual
theorem leA_rep : ∀ (c' c : AV) (vs : List Value), leA σ c' c → RA I g w c vs → RA I (g.from σ) w c' vs
  | .undef, c, vs, h, r => by
    simp only [leA] at h
    have := r.width
    rw [h] at this
    obtain ⟨v, rfl⟩ := List.length_eq_one_iff.1 this
    simp only [RA]; exact ⟨v, rfl⟩
  | .p q, c, vs, h, r => by
    cases c with
    | p p =>
      simp only [leA] at h
      simp only [RA] at r ⊢
      rcases h with rfl | h
      · exact r
      · exact leP_rep q p vs h r
    | _ => simp [leA] at h
  | .hs k n, c, vs, h, r => by
    cases c with
    | hs i m =>
      simp only [leA] at h
      obtain ⟨hs, rfl⟩ := h
      simp only [RA, Gh.from, hs] at r ⊢
      exact r
    | p p =>
      cases p <;> simp only [leA] at h
      case nil =>
        obtain ⟨hs, rfl⟩ := h
        simp only [RA, R, Gh.from, hs] at r ⊢
        exact ⟨none, 0, r, rfl⟩
    | _ => simp [leA] at h
  | .ptr k o, c, vs, h, r => by
    cases c with
    | ptr i o' => simp only [leA] at h; obtain ⟨hs, rfl⟩ := h; simp only [RA, Gh.from, hs] at r ⊢; exact r
    | _ => simp [leA] at h
  | .eptr k n sz j o, c, vs, h, r => by
    cases c with
    | eptr i n' sz' j' o' => simp only [leA] at h; obtain ⟨hs, rfl, rfl, rfl, rfl⟩ := h; simp only [RA, Gh.from, hs] at r ⊢; exact r
    | _ => simp [leA] at h
  | .aptr k o j, c, vs, h, r => by
    cases c with
    | aptr i o' j' => simp only [leA] at h; obtain ⟨hs, rfl, rfl⟩ := h; simp only [RA, Gh.from, hs] at r ⊢; exact r
    | _ => simp [leA] at h
  | .fn f a b, c, vs, h, r => by
    cases c with
    | fn f' a' b' =>
      simp only [leA] at h
      obtain ⟨rfl, h1, h2⟩ := h
      simp only [RA] at r ⊢
      obtain ⟨u1, u2, e, r1, r2⟩ := r
      exact ⟨u1, u2, e, leAs_reps a a' _ h1 r1, leAs_reps b b' _ h2 r2⟩
    | _ => simp [leA] at h
  | .yld k, c, vs, h, r => by
    cases c with
    | yld i => simp only [leA] at h; simp only [RA, Gh.from, h] at r ⊢; exact r
    | _ => simp [leA] at h
  | .agg cs, c, vs, h, r => by
    cases c with
    | agg ds =>
      simp only [leA] at h
      simp only [RA] at r ⊢
      obtain ⟨us, e, r⟩ := r
      exact ⟨us, e, leAs_rep cs ds _ h r⟩
    | _ => simp [leA] at h
  | .tup cs, c, vs, h, r => by
    cases c with
    | tup ds =>
      simp only [leA] at h
      simp only [RA] at r ⊢
      obtain ⟨us, e, r⟩ := r
      exact ⟨us, e, leAs_reps cs ds _ h r⟩
    | _ => simp [leA] at h
theorem leAs_rep : ∀ (cs ds : List AV) (vs : List Value), leAs σ cs ds → RAs I g w ds vs → RAs I (g.from σ) w cs vs
  | [], [], _, _, r => by simpa only [RAs] using r
  | [], _ :: _, _, h, _ => by simp [leAs] at h
  | _ :: _, [], _, h, _ => by simp [leAs] at h
  | c :: cs, d :: ds, vs, h, r => by
    simp only [leAs] at h
    simp only [RAs] at r ⊢
    obtain ⟨v1, v2, e, r1, r2⟩ := r
    exact ⟨v1, v2, e, leA_rep c d v1 h.1 r1, leAs_rep cs ds v2 h.2 r2⟩
theorem leAs_reps : ∀ (cs ds : List AV) (vs : List Value), leAs σ cs ds → RAEs I g w ds vs → RAEs I (g.from σ) w cs vs
  | [], [], _, _, r => by simpa only [RAEs] using r
  | [], _ :: _, _, h, _ => by simp [leAs] at h
  | _ :: _, [], _, h, _ => by simp [leAs] at h
  | c :: cs, d :: ds, vs, h, r => by
    simp only [leAs] at h
    simp only [RAEs] at r ⊢
    obtain ⟨v1, v2, e, r1, r2⟩ := r
    exact ⟨v1, v2, e, leA_rep c d _ h.1 r1, leAs_reps cs ds v2 h.2 r2⟩
end

theorem leEn_rep {tm : Nat → Value} {e : List (Nat × AV)} (r : ∀ t, RA I g w (look e t) [tm t]) : ∀ {e' : List (Nat × AV)}, leEn σ e' e → ∀ t, RA I (g.from σ) w (look e' t) [tm t]
  | [], _, t => by simp only [look, RA]; exact ⟨_, rfl⟩
  | (i, v) :: rr, h, t => by
    simp only [leEn] at h
    simp only [look]
    split
    · rename_i e1; subst e1
      rcases h.1 with h | h
      · rw [h]; simp only [RA]; exact ⟨_, rfl⟩
      · exact leA_rep _ _ _ h (r _)
    · exact leEn_rep r h.2 t

theorem leHn_at {h : Heap} : ∀ {h' : Heap}, leHn σ h' h → ∀ k x, hlook h' k = some x → leH1 σ k x h
  | [], _, _, _, hx => by simp [hlook] at hx
  | (i, b) :: r, hl, k, x, hx => by
    simp only [leHn] at hl
    simp only [hlook] at hx
    split at hx
    · rename_i e; subst e; cases hx; exact hl.1
    · exact leHn_at hl.2 k x hx

theorem mem_srcs : ∀ {h' : Heap} {k i : Nat} {x : ABlk}, hlook h' k = some x → σ k = some i → i ∈ srcs σ h'
  | [], _, _, _, hx, _ => by simp [hlook] at hx
  | (j, b) :: r, k, i, x, hx, hs => by
    simp only [hlook] at hx
    simp only [srcs]
    split at hx
    · rename_i e; subst e; rw [hs]; simp
    · have := mem_srcs hx hs
      split
      · exact List.mem_cons_of_mem _ this
      · exact this

theorem srcs_inj : ∀ {h' : Heap}, (srcs σ h').Nodup → ∀ {k k' i : Nat} {x x' : ABlk}, hlook h' k = some x → hlook h' k' = some x' → σ k = some i → σ k' = some i → k = k'
  | [], _, _, _, _, _, _, hx, _, _, _ => by simp [hlook] at hx
  | (j, b) :: r, hnd, k, k', i, x, x', hx, hx', hs, hs' => by
    simp only [hlook] at hx hx'
    simp only [srcs] at hnd
    split at hx <;> split at hx'
    · rename_i e e'; exact e.symm.trans e'
    · rename_i e e'
      subst e
      rw [hs] at hnd
      exact absurd (mem_srcs hx' hs') (List.nodup_cons.1 hnd).1
    · rename_i e e'
      subst e'
      rw [hs'] at hnd
      exact absurd (mem_srcs hx hs) (List.nodup_cons.1 hnd).1
    · refine srcs_inj ?_ hx hx' hs hs'
      split at hnd
      · exact (List.nodup_cons.1 hnd).2
      · exact hnd

/-- 'LESS IS KNOWN', worked out -/
theorem St.LE.of {s s' : St} (σ : Nat → Option Nat) (h1 : leEn σ s'.env s.env) (h2 : leHn σ s'.heap s.heap) (h5 : (srcs σ s'.heap).Nodup) (h3 : onE s'.nx s'.heap s'.env) (h4 : onH s'.nx s'.heap s'.heap) : St.LE s s' := by
  intro I g w a ok
  have hsrc : ∀ k x, hlook s'.heap k = some x → (σ k = none ∧ ∃ e sz fl, x = .list e sz [] false fl) ∨ ∃ i y, σ k = some i ∧ hlook s.heap i = some y ∧ leB σ k i x y := by
    intro k x hx
    have := leHn_at h2 k x hx
    unfold leH1 at this
    split at this
    · rename_i hs
      split at this
      · subst this; exact .inl ⟨hs, _, _, _, rfl⟩
      · exact this.elim
    · rename_i i hs
      split at this
      · rename_i y hy; exact .inr ⟨i, y, hs, hy, this⟩
      · exact this.elim
  have hown : ∀ k i x y, σ k = some i → leB σ k i x y → ownB (g.from σ) k x = ownB g i y ∧ x.opn = y.opn := by
    intro k i x y hs hb
    cases x <;> cases y <;> simp only [leB] at hb
    · exact ⟨by simp only [ownB, Gh.from, hs], rfl⟩
    · obtain ⟨rfl, rfl, rfl, rfl, hb⟩ := hb
      have hl := hb.elim (fun e => by rw [e]) leLL_length
      exact ⟨by simp only [ownB, Gh.from, hs, hl], rfl⟩
    · exact ⟨by simp only [ownB, Gh.from, hs], rfl⟩
    · exact ⟨rfl, rfl⟩
  have hnone : ∀ k e sz fl, σ k = none → ownB (g.from σ) k (.list e sz [] false fl) = none := fun k e sz fl hs => by simp only [ownB, Gh.from, hs, Value.ownBlock]
  refine ⟨g.from σ, ⟨leEn_rep ok.env h1, onE_spec h3, ⟨fun k x hx => ?_, fun k k' x x' b hne hx hx' hb hb' => ?_, fun k x hx => onB_spec (onH_spec h4 k x hx) hx, ok.heap.new⟩, ok.small⟩, ?_, ⟨rfl, rfl⟩⟩
  · rcases hsrc k x hx with ⟨hs, e, sz, fl, rfl⟩ | ⟨i, y, hs, hy, hb⟩
    · refine ⟨[], ⟨by simp, .inl ⟨by simp [Gh.from, hs], rfl⟩⟩, by simp only [RC], fun k hk => ?_, fun v hv => by cases hv⟩
      simp [Gh.from, hs, Value.ownBlock] at hk
    · have hB := ok.heap.blk i y hy
      cases x <;> cases y <;> simp only [leB] at hb
      · obtain ⟨C, T, hC, hr, hn⟩ := hB
        refine ⟨C, T, by simp only [Gh.from, hs]; exact hC, leAs_rep _ _ _ hb hr, by simp only [Gh.from, hs]; exact hn⟩
      · obtain ⟨rfl, rfl, rfl, rfl, hb⟩ := hb
        rename_i ys
        obtain ⟨vals, h1, h2, h3, h4⟩ := hB
        have hl := hb.elim (fun e => by rw [e]) leLL_length
        refine ⟨vals, by simp only [Gh.from, hs]; rw [hl]; exact h1, ?_, by simp only [Gh.from, hs]; rw [hl]; exact h3, h4⟩
        have h2' : RC (If I (g.from σ) _) w _ _ vals := h2
        rcases hb with rfl | hb
        · exact h2'
        · exact leLL_RC hb h2'
      · obtain ⟨rfl, rfl, rfl, rfl, rfl, rfl, rfl, he⟩ := hb
        obtain ⟨hC, hsz, hr, hn⟩ := hB
        refine ⟨by simp only [Gh.from, hs]; exact hC, by simp only [Gh.from, hs]; exact hsz, leEn_rep hr he, by simp only [Gh.from, hs]; exact hn⟩
      · obtain ⟨rfl, he⟩ := hb
        exact leEn_rep hB he
  · rcases hsrc k x hx with ⟨hs, e, sz, fl, rfl⟩ | ⟨i, y, hs, hy, hle⟩
    · rw [hnone _ _ _ _ hs] at hb; cases hb
    · rcases hsrc k' x' hx' with ⟨hs', e, sz, fl, rfl⟩ | ⟨i', y', hs', hy', hle'⟩
      · rw [hnone _ _ _ _ hs'] at hb'; cases hb'
      · rw [(hown k i x y hs hle).1] at hb
        rw [(hown k' i' x' y' hs' hle').1] at hb'
        exact ok.heap.sep i i' y y' b (fun e => hne (srcs_inj h5 hx hx' hs (by rw [hs', e]))) hy hy' hb hb'
  · rintro b ⟨k, x, hx, hop, hb⟩
    rcases hsrc k x hx with ⟨hs, e, sz, fl, rfl⟩ | ⟨i, y, hs, hy, hle⟩
    · rw [hnone _ _ _ _ hs] at hb; cases hb
    · obtain ⟨e1, e2⟩ := hown k i x y hs hle
      rw [e1] at hb
      rw [e2] at hop
      exact ⟨i, y, hy, hop, hb⟩
end
end Go.Abs

namespace Go.Abs
open Go Go.RowKit

mutual
/-- ids moved -/
def shA (k : Nat) : AV → AV
  | .hs id n => .hs (k + id) n
  | .agg cs => .agg (shAs k cs)
  | .tup cs => .tup (shAs k cs)
  | v => v
def shAs (k : Nat) : List AV → List AV
  | [] => []
  | c :: cs => shA k c :: shAs k cs
end

mutual
/-- ids by a table -/
def renA (ρ : List Nat) : AV → AV
  | .hs id n => .hs (ρ.getD id 0) n
  | .agg cs => .agg (renAs ρ cs)
  | .tup cs => .tup (renAs ρ cs)
  | v => v
def renAs (ρ : List Nat) : List AV → List AV
  | [] => []
  | c :: cs => renA ρ c :: renAs ρ cs
end

mutual
/-- values and own lists alone -/
def plainA : AV → Bool
  | .p _ | .hs _ _ => true
  | .agg cs => plainAs cs
  | .tup cs => plainAs cs
  | _ => false
def plainAs : List AV → Bool
  | [] => true
  | c :: cs => plainA c && plainAs cs
end

def addB : Nat → List ABlk → Heap → Heap
  | _, [], h => h
  | nx, b :: bs, h => addB (nx + 1) bs ((nx, b) :: h)

theorem hlook_addB : ∀ (bs : List ABlk) (nx : Nat) (h : Heap) (id : Nat), hlook (addB nx bs h) id = if nx ≤ id ∧ id < nx + bs.length then bs[id - nx]? else hlook h id
  | [], nx, h, id => by
    have : ¬ (nx ≤ id ∧ id < nx + ([] : List ABlk).length) := fun h => by have := h.2; simp only [List.length_nil] at this; omega
    rw [if_neg this]; rfl
  | b :: bs, nx, h, id => by
    simp only [addB, hlook_addB bs, hlook]
    by_cases e : nx = id
    · subst e
      have h1 : ¬ (nx + 1 ≤ nx ∧ nx < nx + 1 + bs.length) := by omega
      rw [if_neg h1, if_pos rfl, if_pos (by simp)]
      simp
    · by_cases h1 : nx + 1 ≤ id ∧ id < nx + 1 + bs.length
      · rw [if_pos h1, if_pos (by simp; omega)]
        rw [show id - nx = (id - (nx + 1)) + 1 from by omega]
        simp
      · rw [if_neg h1, if_neg e, if_neg (by simp; omega)]

def lenOf : ABlk → Nat
  | .list _ _ xs _ _ => xs.length
  | _ => 0
def isLst : ABlk → Bool
  | .list .. => true
  | _ => false
def isFl : ABlk → Bool
  | .list _ _ _ _ fl => fl
  | _ => false

/-- the new lists' ids, with lengths -/
def newD (bs : List ABlk) : Nat → Nat → Prop := fun id m => ∃ x, bs[id]? = some x ∧ m ≤ lenOf x

structure NewOk (J : Nat → Prop) (gc : Gh) (w : World) (bs : List ABlk) (n0 : Nat) : Prop where
  lst : bs.all isLst = true
  blk : ∀ id x, bs[id]? = some x → BOk J gc w id x
  sep : ∀ id id' x x' k, id ≠ id' → bs[id]? = some x → bs[id']? = some x' → ownB gc id x = some k → ownB gc id' x' ≠ some k
  new : gc.b0 = n0

/-- what a function comes to that hands back lists of the caller's own -/
def ANew (P : Program) (sh : Bool) (f : FuncId) (args : List PV) (rv : AV) (bs : List ABlk) : Prop :=
  pfun P f = true ∧ ∀ (I : Nat → Prop) (w : World) (vals : Array Value), (∀ b, I b → b < w.heap.size) → REs I w args vals.toList →
    Calls P f vals w fun e w' => ∃ v J gc, e = .returned v ∧ (∀ b, J b → b < w'.heap.size ∧ (w.heap.size ≤ b ∨ (sh = true ∧ I b))) ∧ RA J gc w' rv [v] ∧ rv.on (newD bs) ∧ NewOk J gc w' bs w.heap.size ∧ Below w.heap.size w w' ∧ CF w w'

/-- the ghost with those of the callee -/
def Gh.adopt (g : Gh) (nx n : Nat) (gc : Gh) : Gh := { g with hdr := fun i m => if nx ≤ i ∧ i < nx + n then gc.hdr (i - nx) m else g.hdr i m }

def adoptD (D : Nat → Nat → Prop) (nx : Nat) (bs : List ABlk) : Nat → Nat → Prop := fun id m => D id m ∨ (nx ≤ id ∧ newD bs (id - nx) m)

section
variable {D : Nat → Nat → Prop} {I J : Nat → Prop} {g gc : Gh} {w w' : World} {h : Heap} {bs : List ABlk} {nx : Nat}

theorem isLst_of (hl : bs.all isLst = true) {id : Nat} {x : ABlk} (hx : bs[id]? = some x) : ∃ e sz xs f fl, x = .list e sz xs f fl := by
  have := List.all_eq_true.1 hl x (List.mem_of_getElem? hx)
  cases x with
  | list e sz xs f fl => exact ⟨e, sz, xs, f, fl, rfl⟩
  | _ => simp [isLst] at this

theorem HOk.ids (ok : HOk D I g w h) {id : Nat} {x : ABlk} (hx : hlook h id = some x) : ∃ m, D id m := by
  have := ok.dom id x hx
  cases x with
  | var cs => exact ⟨_, this.1⟩
  | list e sz xs f fl => exact ⟨_, this.1⟩
  | loop st pe n0 env ps x y => exact ⟨_, this.1⟩
  | frame env => exact ⟨_, this.1⟩
  | rvar cells => exact ⟨_, this⟩

theorem Tr.adopt (ok : HOk D I g w h) (small : ∀ b, I b → b < w.heap.size) (hb : Below w.heap.size w w') (hcf : CF w w') (hJ : ∀ b, J b → b < w'.heap.size ∧ (w.heap.size ≤ b ∨ I b)) (nk : NewOk J gc w' bs w.heap.size)
    (hn : ∀ id m, nx ≤ id → id < nx + bs.length → ¬ D id m) : Tr D I g w h (adoptD D nx bs) (fun b => I b ∨ J b) (g.adopt nx bs.length gc) w' (addB nx bs h) := by
  have so : SameOn I w w' := fun b hbI => hb.block b (small b hbI)
  have hold : ∀ id x, hlook h id = some x → ¬ (nx ≤ id ∧ id < nx + bs.length) := fun id x hx hle => by obtain ⟨m, hm⟩ := ok.ids hx; exact hn id m hle.1 hle.2 hm
  have gs : Gh.same D g (g.adopt nx bs.length gc) := fun id m hd => ⟨rfl, by
    simp only [Gh.adopt]
    rw [if_neg (fun q => hn id m q.1 q.2 hd)]⟩
  have hcase : ∀ id x, hlook (addB nx bs h) id = some x → (nx ≤ id ∧ bs[id - nx]? = some x) ∨ (¬ (nx ≤ id ∧ id < nx + bs.length) ∧ hlook h id = some x) := by
    intro id x hx
    rw [hlook_addB] at hx
    split at hx
    · rename_i hc; exact .inl ⟨hc.1, hx⟩
    · exact .inr ⟨hold id x hx, hx⟩
  have hlt : ∀ k x, bs[k]? = some x → k < bs.length := fun k x hx => (List.getElem?_eq_some_iff.1 hx).1
  have hown : ∀ id x, nx ≤ id → bs[id - nx]? = some x → ownB (g.adopt nx bs.length gc) id x = ownB gc (id - nx) x := by
    intro id x hle hx
    obtain ⟨e, sz, xs, f, fl, rfl⟩ := isLst_of nk.lst hx
    have := hlt _ _ hx
    simp only [ownB, Gh.adopt]
    rw [if_pos ⟨hle, by omega⟩]
  have hown0 : ∀ id x, hlook h id = some x → ownB (g.adopt nx bs.length gc) id x = ownB g id x := fun id x hx => ownB_same gs (ok.dom id x hx)
  have hownb : ∀ k x b, bs[k]? = some x → ownB gc k x = some b → w.heap.size ≤ b := by
    intro k x b hx hb'
    have hB := nk.blk k x hx
    obtain ⟨e, sz, xs, f, fl, rfl⟩ := isLst_of nk.lst hx
    obtain ⟨_, _, _, hk, _⟩ := hB
    have := (hk b hb').2
    rw [nk.new] at this
    exact this
  refine ⟨⟨hb.mono (Nat.zero_le _), fun b hlt _ => hb.block b hlt, ?_, fun b h => ?_, fun b h => .inl h, hcf⟩, gs, ⟨rfl, rfl⟩, fun _ _ h => .inl h, ⟨?_, ?_, ?_, ok.new.step hcf hb.size⟩, fun b h => ?_⟩
  · rintro b ⟨id, x, hx, hop, hb'⟩
    rcases hcase id x hx with ⟨hle, hx⟩ | ⟨_, hx⟩
    · rw [hown id x hle hx] at hb'
      exact .inr (hownb _ _ _ hx hb')
    · rw [hown0 id x hx] at hb'
      exact .inl ⟨id, x, hx, hop, hb'⟩
  · rcases h with h | h
    · exact .inl h
    · rcases (hJ b h).2 with h1 | h1
      · exact .inr (.inr h1)
      · exact .inl h1
  · intro id x hx
    rcases hcase id x hx with ⟨hle, hx⟩ | ⟨_, hx⟩
    · have hB := nk.blk _ x hx
      have hbb := hownb (id - nx) x
      obtain ⟨e, sz, xs, f, fl, rfl⟩ := isLst_of nk.lst hx
      have := hlt _ _ hx
      obtain ⟨vals, h1, h2, h3, h4⟩ := hB
      have hh : (g.adopt nx bs.length gc).hdr id xs.length = gc.hdr (id - nx) xs.length := by
        simp only [Gh.adopt]; rw [if_pos ⟨hle, by omega⟩]
      refine ⟨vals, by rw [hh]; exact h1, RC.mono (fun _ _ => rfl) (fun b hb' => ⟨.inr hb'.1, fun hf => ?_⟩) h2, ?_, h4⟩
      · intro k hk
        rw [hh] at hk
        have hge := hbb k hx hk
        refine ⟨⟨fun hi => ?_, fun hf => .inr ((h3 k hk).1.2 hf)⟩, Nat.le_trans ok.new.1 hge⟩
        rcases hi with hi | hi
        · have := small k hi; omega
        · exact (h3 k hk).1.1 hi
      · have := hb'.2 hf
        rw [nk.new] at this
        exact Nat.le_trans ok.new.1 this
    · refine (ok.blk id x hx).mono (ok.dom id x hx) so (fun b h => .inl h) gs ⟨rfl, rfl⟩ (fun b hbo => hb.block b (ok.own_lt hx hbo)) (fun b hbo h => ?_)
      rcases h with h | h
      · exact h
      · rcases (hJ b h).2 with h1 | h1
        · have := ok.own_lt hx hbo; omega
        · exact h1
  · intro id id' x x' k hne hx hx' hk hk'
    rcases hcase id x hx with ⟨hle, hx⟩ | ⟨_, hx⟩ <;> rcases hcase id' x' hx' with ⟨hle', hx'⟩ | ⟨_, hx'⟩
    · rw [hown id x hle hx] at hk
      rw [hown id' x' hle' hx'] at hk'
      exact nk.sep _ _ x x' k (by omega) hx hx' hk hk'
    · rw [hown id x hle hx] at hk
      rw [hown0 id' x' hx'] at hk'
      have := hownb _ _ _ hx hk
      have := ok.own_lt hx' hk'
      omega
    · rw [hown0 id x hx] at hk
      rw [hown id' x' hle' hx'] at hk'
      have := hownb _ _ _ hx' hk'
      have := ok.own_lt hx hk
      omega
    · rw [hown0 id x hx] at hk
      rw [hown0 id' x' hx'] at hk'
      exact ok.sep id id' x x' k hne hx hx' hk hk'
  · intro id x hx
    rcases hcase id x hx with ⟨hle, hx⟩ | ⟨hnle, hx⟩
    · obtain ⟨e, sz, xs, f, fl, rfl⟩ := isLst_of nk.lst hx
      refine ⟨.inr ⟨hle, _, hx, Nat.le_refl _⟩, fun m hm => ?_⟩
      rcases hm with hm | ⟨_, y, hy, hm⟩
      · exact absurd hm (hn _ _ hle (by have := hlt _ _ hx; omega))
      · rw [hx] at hy; cases hy; exact hm
    · have := ok.dom id x hx
      cases x with
      | var cells => exact ⟨.inl this.1, AV.ons_mono (fun _ _ h => .inl h) _ this.2⟩
      | list e sz xs f fl =>
        refine ⟨.inl this.1, fun m hm => ?_⟩
        rcases hm with hm | ⟨hle, y, hy, _⟩
        · exact this.2 m hm
        · exact absurd ⟨hle, by have := hlt _ _ hy; omega⟩ hnle
      | loop st pe n0 env ps x y => exact ⟨.inl this.1, fun t => AV.on_mono (fun _ _ h => .inl h) _ (this.2 t)⟩
      | frame env => exact ⟨.inl this.1, fun t => AV.on_mono (fun _ _ h => .inl h) _ (this.2 t)⟩
      | rvar cells => exact .inl this
  · rcases h with h | h
    · exact Nat.lt_of_lt_of_le (small b h) hb.size
    · exact (hJ b h).1

mutual
theorem shA_rep {I' : Nat → Prop} (hI : ∀ b, I b → I' b) {g1 : Gh} {nx n : Nat} (hlen : n = bs.length) : ∀ (c : AV) (vs : List Value), plainA c = true → c.on (newD bs) → RA I gc w c vs → RA I' (g1.adopt nx n gc) w (shA nx c) vs
  | .p c, vs, _, _, r => by simp only [shA, RA] at r ⊢; exact R.mono (fun _ _ => rfl) hI c vs r
  | .hs id m, vs, _, ho, r => by
    simp only [shA, RA, AV.on] at r ho ⊢
    obtain ⟨x, hx, _⟩ := ho
    have := (List.getElem?_eq_some_iff.1 hx).1
    simp only [Gh.adopt]
    rw [if_pos ⟨by omega, by omega⟩, show nx + id - nx = id from by omega]
    exact r
  | .agg cs, vs, hp, ho, r => by
    simp only [shA, RA, AV.on, plainA] at r ho hp ⊢
    obtain ⟨us, e, r⟩ := r
    exact ⟨us, e, shAs_rep hI hlen cs _ hp ho r⟩
  | .tup cs, vs, hp, ho, r => by
    simp only [shA, RA, AV.on, plainA] at r ho hp ⊢
    obtain ⟨us, e, r⟩ := r
    exact ⟨us, e, shAs_reps hI hlen cs _ hp ho r⟩
  | .ptr _ _, _, hp, _, _ => by simp [plainA] at hp
  | .eptr _ _ _ _ _, _, hp, _, _ => by simp [plainA] at hp
  | .aptr _ _ _, _, hp, _, _ => by simp [plainA] at hp
  | .fn _ _ _, _, hp, _, _ => by simp [plainA] at hp
  | .yld _, _, hp, _, _ => by simp [plainA] at hp
  | .undef, _, hp, _, _ => by simp [plainA] at hp
theorem shAs_rep {I' : Nat → Prop} (hI : ∀ b, I b → I' b) {g1 : Gh} {nx n : Nat} (hlen : n = bs.length) : ∀ (cs : List AV) (vs : List Value), plainAs cs = true → AV.ons (newD bs) cs → RAs I gc w cs vs → RAs I' (g1.adopt nx n gc) w (shAs nx cs) vs
  | [], _, _, _, r => by simpa only [shAs, RAs] using r
  | c :: cs, vs, hp, ho, r => by
    simp only [shAs, RAs, AV.ons, plainAs, Bool.and_eq_true] at r ho hp ⊢
    obtain ⟨v1, v2, e, r1, r2⟩ := r
    exact ⟨v1, v2, e, shA_rep hI hlen c v1 hp.1 ho.1 r1, shAs_rep hI hlen cs v2 hp.2 ho.2 r2⟩
theorem shAs_reps {I' : Nat → Prop} (hI : ∀ b, I b → I' b) {g1 : Gh} {nx n : Nat} (hlen : n = bs.length) : ∀ (cs : List AV) (vs : List Value), plainAs cs = true → AV.ons (newD bs) cs → RAEs I gc w cs vs → RAEs I' (g1.adopt nx n gc) w (shAs nx cs) vs
  | [], _, _, _, r => by simpa only [shAs, RAEs] using r
  | c :: cs, vs, hp, ho, r => by
    simp only [shAs, RAEs, AV.ons, plainAs, Bool.and_eq_true] at r ho hp ⊢
    obtain ⟨v1, v2, e, r1, r2⟩ := r
    exact ⟨v1, v2, e, shA_rep hI hlen c _ hp.1 ho.1 r1, shAs_reps hI hlen cs v2 hp.2 ho.2 r2⟩
end

mutual
theorem shA_on {D' : Nat → Nat → Prop} (hD : ∀ id m, newD bs id m → D' (nx + id) m) : ∀ (c : AV), plainA c = true → c.on (newD bs) → (shA nx c).on D'
  | .p _, _, _ => by simp only [shA, AV.on]
  | .hs id m, _, ho => by simp only [shA, AV.on] at ho ⊢; exact hD _ _ ho
  | .agg cs, hp, ho => by simp only [shA, AV.on, plainA] at ho hp ⊢; exact shAs_on hD cs hp ho
  | .tup cs, hp, ho => by simp only [shA, AV.on, plainA] at ho hp ⊢; exact shAs_on hD cs hp ho
  | .ptr _ _, hp, _ => by simp [plainA] at hp
  | .eptr _ _ _ _ _, hp, _ => by simp [plainA] at hp
  | .aptr _ _ _, hp, _ => by simp [plainA] at hp
  | .fn _ _ _, hp, _ => by simp [plainA] at hp
  | .yld _, hp, _ => by simp [plainA] at hp
  | .undef, hp, _ => by simp [plainA] at hp
theorem shAs_on {D' : Nat → Nat → Prop} (hD : ∀ id m, newD bs id m → D' (nx + id) m) : ∀ (cs : List AV), plainAs cs = true → AV.ons (newD bs) cs → AV.ons D' (shAs nx cs)
  | [], _, _ => by simp only [shAs, AV.ons]
  | c :: cs, hp, ho => by
    simp only [shAs, AV.ons, plainAs, Bool.and_eq_true] at ho hp ⊢
    exact ⟨shA_on hD c hp.1 ho.1, shAs_on hD cs hp.2 ho.2⟩
end

/-- behind such a call: the caller's state -/
theorem adoptD_Dn {s : St} {h' : Heap} {env : List (Nat × AV)} (hok : HOk (adoptD (Dn s) s.nx bs) J g w' (addB s.nx bs h')) :
    ∀ id m, adoptD (Dn s) s.nx bs id m → Dn ⟨env, addB s.nx bs h', s.nx + bs.length⟩ id m := by
  intro id m hd
  refine ⟨?_, fun e sz xs f fl hx => (hok.dom id _ hx).2 m hd⟩
  rcases hd with hd | ⟨hle, x, hx, _⟩
  · exact Nat.lt_of_lt_of_le hd.1 (Nat.le_add_right _ _)
  · have := (List.getElem?_eq_some_iff.1 hx).1
    show id < s.nx + bs.length
    omega
end

end Go.Abs

namespace Go.Abs
open Go Go.RowKit

/-- a function of Go, called from this state, with these arguments -/
def AIn (P : Program) (f : FuncId) (args : List AV) (s : St) (K : AV → St → Prop) : Prop :=
  pfun P f = true ∧ ∀ (I : Nat → Prop) (g : Gh) (w : World) (a : Act) (vals : Array Value), StOk (Dn s) I g w a s → RAEs I g w args vals.toList → AV.ons (Dn s) args →
    Calls P f vals w fun e w' => ∃ v av s' I' g', e = .returned v ∧ K av s' ∧ StOk (Dn s') I' g' w' a s' ∧ RA I' g' w' av [v] ∧ av.on (Dn s') ∧ Fr I (Owned g s.heap) w I' (Owned g' s'.heap) w' ∧ Gh.kp g g'

/-- a round, asked for by a call of yield -/
def ARd (P : Program) (id : Nat) (args : List AV) (s : St) (K : AV → St → Prop) : Prop :=
  ∀ (r : Option Nat) (n : Nat) (I : Nat → Prop) (g : Gh) (w : World) (a : Act) (vals : Array Value), StOk (Dn s) I g w a s → RAEs I g w args vals.toList → AV.ons (Dn s) args →
    ∃ l fn tmps assign body, (Instr.yield (g.blk id) vals).run P w = .ok (.round l fn tmps assign body) w ∧
      RoundIn (wideR r) n P l fn tmps assign body w fun e w' => ∃ v av s' I' g', e = .returned v ∧ K av s' ∧ StOk (Dn s') I' g' w' a s' ∧ RA I' g' w' av [v] ∧ av.on (Dn s') ∧ Fr I (Owned g s.heap) w I' (Owned g' s'.heap) w' ∧ Gh.kp g g'

/-- a call of a function of Go -/
inductive VCall (P : Program) (f : FuncId) (args : List AV) (s : St) (K : AV → St → Prop) : Prop
  | pure (pargs : List PV) (r : PV) (h1 : toPs s.heap args = some pargs) (h2 : APure P false f pargs r) (h3 : K (ofP r) s)
  | share (pargs : List PV) (r : PV) (h1 : toPs s.heap args = some pargs) (h2 : APure P true f pargs r) (h3 : K (ofP r) { s with heap := frzs s.heap args })
  | inl (h : AIn P f args s K)
  | new (sh : Bool) (pargs : List PV) (rv : AV) (bs : List ABlk) (h1 : toPs s.heap args = some pargs) (hp : plainA rv = true) (h2 : ANew P sh f pargs rv bs)
      (h3 : K (shA s.nx rv) ⟨s.env, addB s.nx bs (bif sh then frzs s.heap args else s.heap), s.nx + bs.length⟩)

/-- one operation; the new id, if there is one, is nid -/
def vop (P : Program) (Z : Zeros) (wr : Bool) (o : Oper) (s : St) (nid : Nat) (K : St → Prop) : Prop :=
  match o.op with
  | .call c =>
    match c.callee with
    | .builtin _ =>
      match astep P Z wr s.env s.heap nid o with
      | some r => r.vc ∧ K { env := put s.env o.dst r.v, heap := r.heap, nx := s.nx }
      | none => False
    | .value x =>
      match ev s.env x with
      | .fn f first cap => VCall P f (first ++ c.args.toList.map (ev s.env) ++ cap) s fun v s' => K { s' with env := put s'.env o.dst v }
      | .yld id => ARd P id (c.args.toList.map (ev s.env)) s fun v s' => K { s' with env := put s'.env o.dst v }
      | _ => False
    | _ => False
  | _ =>
    match astep P Z wr s.env s.heap nid o with
    | some r => r.vc ∧ K { env := put s.env o.dst r.v, heap := r.heap, nx := s.nx }
    | none => False

/-- a guard's answer -/
def guardOf (ops : Array Oper) (env : List (Nat × AV)) (j : Nat) : Option (Nat × Bool) :=
  match (ops[j]?).bind (·.dst) with
  | some t => match look env t with | .p (.bool b) => some (t, b) | _ => none
  | none => none

/-- a region's operations, in the order of the text -/
def vops (P : Program) (Z : Zeros) (wr : Bool) (ops : Array Oper) : List Oper → St → (St → Prop) → Prop
  | [], s, K => K s
  | o :: rest, s, K =>
    match o.guard with
    | none => vop P Z wr o s s.nx fun s' => vops P Z wr ops rest { s' with nx := s'.nx + 1 } K
    | some (j, want) =>
      match guardOf ops s.env j with
      | some (t, b) =>
        (b = want → vop P Z wr o { s with env := (t, .p (.bool want)) :: s.env } s.nx fun s' => vops P Z wr ops rest { s' with nx := s'.nx + 1 } K) ∧
        (b = (!want) → vops P Z wr ops rest { s with env := put ((t, .p (.bool (!want))) :: s.env) o.dst .undef, nx := s.nx + 1 } K)
      | none => False

section
variable {P : Program} {Z : Zeros} {wr rd : Bool} {N : Nat}

/-! ### one operation, in the model's rule -/
/-- what a state stands for, behind a step -/
def Next1 (N : Nat) (I O : Nat → Prop) (g : Gh) (w : World) (dl : List Deferred) (K : St → Prop) (a' : Act) (w' : World) : Prop :=
  ∃ s' I' g', K s' ∧ a'.tmps.size = N ∧ a'.defers = dl ∧ StOk (Dn { s' with nx := s'.nx + 1 }) I' g' w' a' s' ∧ Fr I O w I' (Owned g' s'.heap) w' ∧ Gh.kp g g'

theorem put_size (a : Act) (d : Option Tmp) (v : Value) : (a.put d v).tmps.size = a.tmps.size := by cases d <;> simp [Act.put]
theorem put_defers (a : Act) (d : Option Tmp) (v : Value) : (a.put d v).defers = a.defers := by cases d <;> simp [Act.put]

theorem Dn_step {D' : Nat → Nat → Prop} {s s' : St} {I g w} (hok : HOk D' I g w s'.heap) (hb : ∀ id m, D' id m → (∃ m', Dn s id m') ∨ id = s.nx) {nx' : Nat} (hnx : s.nx < nx') : ∀ id m, D' id m → Dn { s' with nx := nx' } id m := by
  intro id m hd
  refine ⟨?_, fun e sz xs f fl hx => (hok.dom id _ hx).2 m hd⟩
  rcases hb id m hd with ⟨m', h1, _⟩ | rfl
  · exact Nat.lt_trans h1 hnx
  · exact hnx

theorem StOk.toDn {D' : Nat → Nat → Prop} {s s' : St} {I g w a} (ok : StOk D' I g w a s') (hb : ∀ id m, D' id m → (∃ m', Dn s id m') ∨ id = s.nx) {nx' : Nat} (hnx : s.nx < nx') : StOk (Dn { s' with nx := nx' }) I g w a s' :=
  ok.mono (Dn_step ok.heap hb hnx) fun _ _ _ _ _ _ _ hx hd => hd.2 _ _ _ _ _ hx

theorem StOk.toNx {s : St} {I g w a} (ok : StOk (Dn s) I g w a s) {nx' : Nat} (h : s.nx ≤ nx') : StOk (Dn { s with nx := nx' }) I g w a { s with nx := nx' } := by
  have := ok.mono (D' := Dn { s with nx := nx' }) (fun id m hd => ⟨Nat.lt_of_lt_of_le hd.1 h, hd.2⟩) (fun _ _ _ _ _ _ _ hx hd => hd.2 _ _ _ _ _ hx)
  exact ⟨this.env, this.on, this.heap, this.small⟩

theorem StOk.putNext {s' : St} {I g w a} {d : Option Nat} {O : Nat → Prop} {I0 : Nat → Prop} {g0 : Gh} {w0 : World} {K : St → Prop} (ok : StOk (Dn s') I g w a s') (hN : a.tmps.size = N) (hd : ∀ x, d = some x → x < N) {av : AV} {v : Value} (hk : K { s' with env := put s'.env d av }) (hr : RA I g w av [v]) (hon : av.on (Dn s'))
    (fr : Fr I0 O w0 I (Owned g s'.heap) w) (kp : Gh.kp g0 g) : Next1 N I0 O g0 w0 a.defers K (a.put d v) w := by
  have st := ok.step (nx := s'.nx) (d := d) (Tr.refl ok.heap ok.small) (fun x hx => by rw [hN]; exact hd x hx) hr hon
  have st2 := StOk.toNx (s := { s' with env := put s'.env d av }) (nx' := s'.nx + 1) st (Nat.le_succ _)
  exact ⟨{ s' with env := put s'.env d av }, I, g, hk, by rw [put_size, hN], put_defers a _ _, ⟨st2.env, st2.on, st2.heap, st2.small⟩, fr, kp⟩

theorem vop_sound {o : Oper} {s : St} {K : St → Prop} (hz : ZOk P Z) {r : Option Nat} {n : Nat} {I : Nat → Prop} {g : Gh} {w : World} {a : Act} (hN : a.tmps.size = N) (hd : ∀ d, o.dst = some d → d < N) (ok : StOk (Dn s) I g w a s) (hv : vop P Z wr o s s.nx K)
    {next : Act → World → Prop} {Q : Exit → Act → World → Prop} (hnext : ∀ a' w', Next1 N I (Owned g s.heap) g w a.defers K a' w' → next a' w') : o.wpIn (wideR r) n P a w next Q := by
  have hsem : ∀ c, o.op = .call c → True := fun _ _ => trivial
  have hno : ∀ q, astep P Z wr s.env s.heap s.nx o = some q → q.vc → K { env := put s.env o.dst q.v, heap := q.heap, nx := s.nx } → (∀ c, o.op ≠ .defer c) → o.wpIn (wideR r) n P a w next Q := by
    intro q e hvc hk hdef
    obtain ⟨v, w', D', I', g', hrun, t, hr, hon, hb⟩ := astep_sound hz e hvc ok (Dn_fresh s)
    have st := ok.step (nx := s.nx) (d := o.dst) t (fun x hx => by rw [hN]; exact hd x hx) hr hon
    have hfin : next (a.put o.dst v) w' := hnext _ _ ⟨_, I', g', hk, by rw [put_size, hN], put_defers a _ _, st.toDn hb (Nat.lt_succ_self _), t.fr, t.gk⟩
    refine ⟨fun f _ => trivial, ?_⟩
    rw [Oper.semAt_eq _ _ _ hdef]
    rcases hrun with hrun | ⟨hrun, rfl⟩
    · rw [hrun]; exact hfin
    · rw [hrun]; exact hfin
  unfold vop at hv
  split at hv
  · rename_i c ho
    split at hv
    · rename_i b hb
      split at hv
      · rename_i q e
        exact hno q e hv.1 hv.2 (fun c' h => by rw [ho] at h; cases h)
      · exact hv.elim
    · rename_i x hcx
      split at hv
      · rename_i f first cap hev
        -- a call of a function
        obtain ⟨hr, hon⟩ := ev_rep (nx := s.nx) ok x
        rw [hev] at hr hon
        simp only [RA, AV.on] at hr hon
        obtain ⟨u1, u2, hex, hr1, hr2⟩ := hr
        simp only [List.cons.injEq, and_true] at hex
        obtain ⟨ho1, ho2⟩ := hon
        obtain ⟨hra, hoa⟩ := evs_rep (nx := s.nx) ok c.args.toList
        have hargs : RAEs I g w (first ++ c.args.toList.map (ev s.env) ++ cap) (u1 ++ c.args.map a.eval ++ u2).toList := by
          have happ : ∀ {xs ys : List AV} {us vs : List Value}, RAEs I g w xs us → RAEs I g w ys vs → RAEs I g w (xs ++ ys) (us ++ vs) := by
            intro xs
            induction xs with
            | nil => intro ys us vs h k; simp only [RAEs] at h; subst h; simpa using k
            | cons c cs ih => intro ys us vs h k; simp only [RAEs, List.cons_append] at h ⊢; obtain ⟨v, v2, rfl, h1, h2⟩ := h; exact ⟨v, _, rfl, h1, ih h2 k⟩
          simpa using happ (happ hr1 (by simpa using hra)) hr2
        have hexec : ∀ (hp : pfun P f = true), (execOp a.eval o).run P w = .ok (.enter f (u1 ++ c.args.map a.eval ++ u2)) w := by
          intro hp
          simp only [execOp, ho, resolve, hcx, Sem.run_bind, hex, Deferred.ofValue, Sem.run_pure, Result.andThen_ok, invoke]
          exact pfun_run hp _ _
        have hfinal : ∀ (sh : Bool) (pargs : List PV) (rv : PV) (h' : Heap), toPs s.heap (first ++ c.args.toList.map (ev s.env) ++ cap) = some pargs → APure P sh f pargs rv →
            (sh = false → h' = s.heap) → (sh = true → h' = frzs s.heap (first ++ c.args.toList.map (ev s.env) ++ cap)) → K { env := put s.env o.dst (ofP rv), heap := h', nx := s.nx } → o.wpIn (wideR r) n P a w next Q := by
          intro sh pargs rv h' hp hA hh1 hh2 hk
          obtain ⟨I1, t1, hR⟩ := lend ok.heap ok.small hp hargs
          refine ⟨fun f _ => trivial, ?_⟩
          rw [Oper.semAt_eq _ _ _ (fun c' h => by rw [ho] at h; cases h), hexec hA.1]
          refine ⟨fun hdep => by simp [wideR] at hdep, callsIn_wideR.2 ((hA.2 I1 w _ t1.small hR).mono ?_)⟩
          rintro e w' ⟨v, J, rfl, hJ, hRv, hbel, hcf⟩
          show next (a.put o.dst v) w'
          cases sh with
          | false =>
            cases hh1 rfl
            have t2 := Tr.called ok.heap ok.small hbel hcf (J := J) (fun b hb => ⟨(hJ b hb).1, (hJ b hb).2.elim .inl (fun h => by simp at h)⟩)
            obtain ⟨hra', hon'⟩ := ofP_rep (g := g) hRv
            have st := ok.step (nx := s.nx) (d := o.dst) t2 (fun x hx => by rw [hN]; exact hd x hx) (RA.mono' (fun b hb => .inr hb) hra') (hon' _)
            exact hnext _ _ ⟨_, _, g, hk, by rw [put_size, hN], put_defers a _ _, st.toDn (fun id m hd => .inl ⟨m, hd⟩) (Nat.lt_succ_self _), t2.fr, t2.gk⟩
          | true =>
            cases hh2 rfl
            have t2 := Tr.called t1.heap t1.small hbel hcf (J := J) (fun b hb => ⟨(hJ b hb).1, (hJ b hb).2.elim .inl (fun h => .inr h.2)⟩)
            have t3 := t1.trans t2
            obtain ⟨hra', hon'⟩ := ofP_rep (g := g) hRv
            have st := ok.step (nx := s.nx) (d := o.dst) t3 (fun x hx => by rw [hN]; exact hd x hx) (RA.mono' (fun b hb => .inr hb) hra') (hon' _)
            exact hnext _ _ ⟨_, _, g, hk, by rw [put_size, hN], put_defers a _ _, st.toDn (fun id m hd => .inl ⟨m, hd⟩) (Nat.lt_succ_self _), t3.fr, t3.gk⟩
        cases hv with
        | pure pargs rv h1 h2 h3 => exact hfinal false pargs rv s.heap h1 h2 (fun _ => rfl) (fun h => by cases h) h3
        | share pargs rv h1 h2 h3 => exact hfinal true pargs rv _ h1 h2 (fun h => by cases h) (fun _ => rfl) h3
        | new sh pargs rv bs hp hpl hA hk =>
          have hfin : ∀ (h' : Heap) (I1 : Nat → Prop), Tr (Dn s) I g w s.heap (Dn s) I1 g w h' → REs I1 w pargs (u1 ++ c.args.map a.eval ++ u2).toList → (∀ b, I1 b → b < w.heap.size) →
              K { env := put s.env o.dst (shA s.nx rv), heap := addB s.nx bs h', nx := s.nx + bs.length } → o.wpIn (wideR r) n P a w next Q := by
            intro h' I1 t1 hR hsm hk
            refine ⟨fun f _ => trivial, ?_⟩
            rw [Oper.semAt_eq _ _ _ (fun c' h => by rw [ho] at h; cases h), hexec hA.1]
            refine ⟨fun hdep => by simp [wideR] at hdep, callsIn_wideR.2 ((hA.2 I1 w _ hsm hR).mono ?_)⟩
            rintro e w' ⟨v, J, gc, rfl, hJ, hRv, hov, nk, hbel, hcf⟩
            have t2 := Tr.adopt t1.heap t1.small hbel hcf (fun b hb => ⟨(hJ b hb).1, (hJ b hb).2.elim .inl (fun h => .inr h.2)⟩) nk (nx := s.nx) (fun id m hle _ hd => by have := hd.1; omega)
            have t3 := t1.trans t2
            have hra := shA_rep (I' := fun b => I1 b ∨ J b) (g1 := g) (nx := s.nx) (fun b hb => .inr hb) rfl rv _ hpl hov hRv
            have hon' : (shA s.nx rv).on (adoptD (Dn s) s.nx bs) := shA_on (fun id m hd => .inr ⟨Nat.le_add_right _ _, by rw [show s.nx + id - s.nx = id from by omega]; exact hd⟩) rv hpl hov
            have okc := ok.called t3
            have okd := okc.mono (adoptD_Dn (env := s.env) t3.heap) fun _ _ _ _ _ _ _ hx hd => hd.2 _ _ _ _ _ hx
            exact hnext _ _ (StOk.putNext (s' := ⟨s.env, addB s.nx bs h', s.nx + bs.length⟩) ⟨okd.env, okd.on, okd.heap, okd.small⟩ hN hd hk hra (AV.on_mono (adoptD_Dn (env := s.env) t3.heap) _ hon') t3.fr t3.gk)
          obtain ⟨I1, t1, hR⟩ := lend ok.heap ok.small hp hargs
          cases sh with
          | true => exact hfin _ I1 t1 hR t1.small hk
          | false =>
            refine ⟨fun f _ => trivial, ?_⟩
            rw [Oper.semAt_eq _ _ _ (fun c' h => by rw [ho] at h; cases h), hexec hA.1]
            refine ⟨fun hdep => by simp [wideR] at hdep, callsIn_wideR.2 ((hA.2 I1 w _ t1.small hR).mono ?_)⟩
            rintro e w' ⟨v, J, gc, rfl, hJ, hRv, hov, nk, hbel, hcf⟩
            have t2 := Tr.adopt ok.heap ok.small hbel hcf (J := J) (fun b hb => ⟨(hJ b hb).1, (hJ b hb).2.elim .inl (fun h => by simp at h)⟩) nk (nx := s.nx) (fun id m hle _ hd => by have := hd.1; omega)
            have hra := shA_rep (I' := fun b => I b ∨ J b) (g1 := g) (nx := s.nx) (fun b hb => .inr hb) rfl rv _ hpl hov hRv
            have hon' : (shA s.nx rv).on (adoptD (Dn s) s.nx bs) := shA_on (fun id m hd => .inr ⟨Nat.le_add_right _ _, by rw [show s.nx + id - s.nx = id from by omega]; exact hd⟩) rv hpl hov
            have okc := ok.called t2
            have okd := okc.mono (adoptD_Dn (env := s.env) t2.heap) fun _ _ _ _ _ _ _ hx hd => hd.2 _ _ _ _ _ hx
            exact hnext _ _ (StOk.putNext (s' := ⟨s.env, addB s.nx bs s.heap, s.nx + bs.length⟩) ⟨okd.env, okd.on, okd.heap, okd.small⟩ hN hd hk hra (AV.on_mono (adoptD_Dn (env := s.env) t2.heap) _ hon') t2.fr t2.gk)
        | inl hA =>
          have hons : AV.ons (Dn s) (first ++ c.args.toList.map (ev s.env) ++ cap) := ons_append (ons_append ho1 hoa) ho2
          refine ⟨fun f _ => trivial, ?_⟩
          rw [Oper.semAt_eq _ _ _ (fun c' h => by rw [ho] at h; cases h), hexec hA.1]
          refine ⟨fun hdep => by simp [wideR] at hdep, callsIn_wideR.2 ((hA.2 I g w a _ ok hargs hons).mono ?_)⟩
          rintro e w' ⟨v, av, s', I', g', rfl, hk, ok', hrv, hov, fr, kp⟩
          exact hnext _ _ (ok'.putNext hN hd hk hrv hov fr kp)
      · rename_i id hev
        -- a round
        obtain ⟨hr, hon⟩ := ev_rep (nx := s.nx) ok x
        rw [hev] at hr hon
        simp only [RA, List.cons.injEq, and_true] at hr
        obtain ⟨hra, hoa⟩ := evs_rep (nx := s.nx) ok c.args.toList
        obtain ⟨l, fn, tmps, assign, body, hy, hround⟩ := hv r (n - 1) I g w a (c.args.map a.eval) ok (by simpa using hra) hoa
        refine ⟨fun f _ => trivial, ?_⟩
        have hexec : (execOp a.eval o).run P w = .ok (.round l fn tmps assign body) w := by
          simp only [execOp, ho, resolve, hcx, Sem.run_bind, hr, Deferred.ofValue, Sem.run_pure, Result.andThen_ok, invoke]
          simpa using hy
        rw [Oper.semAt_eq _ _ _ (fun c' h => by rw [ho] at h; cases h), hexec]
        refine ⟨fun hdep => by simp [wideR] at hdep, hround.mono ?_⟩
        rintro e w' ⟨v, av, s', I', g', rfl, hk, ok', hrv, hov, fr, kp⟩
        exact hnext _ _ (ok'.putNext hN hd hk hrv hov fr kp)
      · exact hv.elim
    · exact hv.elim
  · rename_i hnc
    split at hv
    · rename_i q e
      refine hno q e hv.1 hv.2 ?_
      intro c' h
      unfold astep at e
      rw [h] at e
      simp at e
    · exact hv.elim

/-- a guard's answer, in the model -/
theorem guardOf_rep {ops : Array Oper} {D I g w a} {s : St} (ok : StOk D I g w a s) {j t : Nat} {b : Bool} (h : guardOf ops s.env j = some (t, b)) : yielded ops a.tmps j = some b ∧ look s.env t = .p (.bool b) := by
  unfold guardOf at h
  split at h
  · rename_i t' ht
    split at h
    · rename_i b' hb
      cases h
      have hr := ok.env t
      rw [hb] at hr
      simp only [RA, R, List.cons.injEq, and_true] at hr
      refine ⟨?_, hb⟩
      unfold yielded
      rw [ht]
      have : a.tmps[t]? = some (.bool b) := by
        rw [Array.getD_eq_getD_getElem?] at hr
        cases hq : a.tmps[t]? with
        | none => rw [hq] at hr; simp [undef] at hr
        | some v => rw [hq] at hr; simp at hr; rw [hr]
      simp [this]
    · cases h
  · cases h

theorem StOk.known {D I g w a} {s : St} (ok : StOk D I g w a s) {t : Nat} {v : AV} (h : look s.env t = v) : StOk D I g w a { s with env := (t, v) :: s.env } := by
  refine ⟨fun t' => ?_, fun t' => ?_, ok.heap, ok.small⟩
  · simp only [look]
    split
    · rename_i e; subst e; rw [← h]; exact ok.env t
    · exact ok.env t'
  · simp only [look]
    split
    · rename_i e; subst e; rw [← h]; exact ok.on t
    · exact ok.on t'

/-- a guarded operation that is passed over -/
theorem StOk.pass {s : St} {I g w a} (ok : StOk (Dn s) I g w a s) {d : Option Tmp} (hd : ∀ x, d = some x → x < a.tmps.size) : StOk (Dn s) I g w (a.put d undef) { s with env := put s.env d .undef } := by
  have := ok.step (nx := s.nx) (d := d) (av := .undef) (v := undef) (Tr.refl ok.heap ok.small) hd (by simp only [RA]; exact ⟨_, rfl⟩) (by simp only [AV.on])
  exact this

theorem vops_sound (hz : ZOk P Z) {ops : Array Oper} {r : Option Nat} {n : Nat} {I0 O0 : Nat → Prop} {g0 : Gh} {w0 : World} {dl : List Deferred} {K : St → Prop} {Q : Exit → Act → World → Prop}
    (hQ : ∀ s' I' g' a' w', K s' → a'.tmps.size = N → a'.defers = dl → StOk (Dn s') I' g' w' a' s' → Fr I0 O0 w0 I' (Owned g' s'.heap) w' → Gh.kp g0 g' → Q .normal a' w') :
    ∀ (l : List Oper) (k : Nat), (∀ j, l[j]? = ops[k + j]?) → (∀ o ∈ l, ∀ d, o.dst = some d → d < N) → ∀ (s : St) (I : Nat → Prop) (g : Gh) (w : World) (a : Act), a.tmps.size = N → a.defers = dl → StOk (Dn s) I g w a s →
      Fr I0 O0 w0 I (Owned g s.heap) w → Gh.kp g0 g → vops P Z wr ops l s K → wpOpsIn (wideR r) n P ops Q (List.range' k l.length) a w
  | [], k, _, _, s, I, g, w, a, hN, hdl, ok, fr, kp, hv => by
    simp only [List.length_nil, List.range'_zero, wpOpsIn]
    exact hQ s I g a w hv hN hdl ok fr kp
  | o :: l, k, hk, hd, s, I, g, w, a, hN, hdl, ok, fr, kp, hv => by
    have h0 : ops[k]? = some o := by simpa using (hk 0).symm
    have hk' : ∀ j, l[j]? = ops[k + 1 + j]? := fun j => by have := hk (j + 1); simpa [Nat.add_assoc, Nat.add_comm 1 j] using this
    have hd0 : ∀ d, o.dst = some d → d < N := hd o (by simp)
    have hd' : ∀ o ∈ l, ∀ d, o.dst = some d → d < N := fun o ho => hd o (by simp [ho])
    simp only [List.length_cons, List.range'_succ, wpOpsIn, h0]
    unfold vops at hv
    split at hv
    · rename_i hg
      rw [if_pos (by simp [Region.wanted, hg])]
      refine vop_sound hz hN hd0 ok hv ?_
      rintro a' w' ⟨s', I', g', hk1, hN', hdl', ok', fr', kp'⟩
      have ok2 : StOk (Dn { s' with nx := s'.nx + 1 }) I' g' w' a' { s' with nx := s'.nx + 1 } := ⟨ok'.env, ok'.on, ok'.heap, ok'.small⟩
      exact vops_sound hz hQ l (k + 1) hk' hd' _ I' g' w' a' hN' (by rw [hdl', hdl]) ok2 (fr.trans fr') (kp.trans kp') hk1
    · rename_i j want hg
      split at hv
      · rename_i t b hgo
        obtain ⟨hy, hl⟩ := guardOf_rep ok hgo
        have hw : Region.wanted o (yielded ops a.tmps) = (b == want) := by
          simp only [Region.wanted, hg, hy]
          cases b <;> cases want <;> rfl
        by_cases hb : b = want
        · subst hb
          rw [if_pos (by rw [hw]; simp)]
          have okk := ok.known hl
          refine vop_sound hz hN hd0 (s := { s with env := (t, .p (.bool b)) :: s.env }) ⟨okk.env, okk.on, okk.heap, okk.small⟩ (hv.1 rfl) ?_
          rintro a' w' ⟨s', I', g', hk1, hN', hdl', ok', fr', kp'⟩
          have ok2 : StOk (Dn { s' with nx := s'.nx + 1 }) I' g' w' a' { s' with nx := s'.nx + 1 } := ⟨ok'.env, ok'.on, ok'.heap, ok'.small⟩
          exact vops_sound hz hQ l (k + 1) hk' hd' _ I' g' w' a' hN' (by rw [hdl', hdl]) ok2 (fr.trans fr') (kp.trans kp') hk1
        · rw [if_neg (by rw [hw]; simpa using hb)]
          have hb' : b = !want := by cases b <;> cases want <;> simp_all
          subst hb'
          refine ⟨fun f _ => trivial, ?_⟩
          have okk := ok.known hl
          have okp := StOk.pass (s := { s with env := (t, .p (.bool (!want))) :: s.env }) ⟨okk.env, okk.on, okk.heap, okk.small⟩ (d := o.dst) (fun x hx => by rw [hN]; exact hd0 x hx)
          have okn := StOk.toNx (s := { s with env := put ((t, .p (.bool (!want))) :: s.env) o.dst .undef }) (nx' := s.nx + 1) ⟨okp.env, okp.on, okp.heap, okp.small⟩ (Nat.le_succ _)
          exact vops_sound hz hQ l (k + 1) hk' hd' _ I g w _ (by rw [put_size, hN]) (by rw [put_defers, hdl]) okn fr kp (hv.2 rfl)
      · exact hv.elim

def dstOk (N : Nat) : List Oper → Bool
  | [] => true
  | o :: l => (match o.dst with | some d => decide (d < N) | none => true) && dstOk N l

theorem dstOk_spec {N : Nat} : ∀ {l : List Oper}, dstOk N l = true → ∀ o ∈ l, ∀ d, o.dst = some d → d < N
  | [], _, o, ho, _, _ => by simp at ho
  | o' :: l, h, o, ho, d, hd => by
    simp only [dstOk, Bool.and_eq_true] at h
    rcases List.mem_cons.1 ho with rfl | ho
    · rw [hd] at h; simpa using h.1
    · exact dstOk_spec h.2 o ho d hd

/-- a region that does not draw its order -/
theorem AWP.region (hz : ZOk P Z) (wr : Bool) {id : Nat} {l : List Oper} {s : St} {Q : Exit → St → Prop} (hd : dstOk N l = true) (h : vops P Z wr l.toArray l s (Q .normal)) : AWP P N rd (.region id l.toArray false) s Q := by
  intro r n I g w a _ hN hdl ok
  refine wpIn_region ?_
  rw [List.range_eq_range', ← Array.length_toList]
  exact vops_sound hz (Q := Post N I (Owned g s.heap) g w a.defers Q) (dl := a.defers) (fun s' I' g' a' w' hk hN' hdl' ok' fr kp => ⟨s', I', g', hk, hN', ⟨by rw [hdl']; exact hdl.fr fr, by rw [hdl']; exact DlNew.refl _ _⟩, ok', fr, kp⟩) l 0 (by simp) (dstOk_spec hd) s I g w a hN rfl ok (Fr.refl _ _ _) (Gh.kp.refl _) h

end
end Go.Abs

namespace Go.Abs
open Go Go.RowKit

def ares1 (P : Program) (s : St) : ResultVar → Option AV
  | .tmp t => some (look s.env t)
  | .cell t ty => vload P s.heap ty (look s.env t)

def aresL (P : Program) (s : St) : List ResultVar → Option (List AV)
  | [] => some []
  | r :: rs => (ares1 P s r).bind fun v => (aresL P s rs).map (v :: ·)

/-- what a function hands back -/
def ares (P : Program) (rs : List ResultVar) (s : St) : Option AV :=
  match rs with
  | [r] => ares1 P s r
  | rs => (aresL P s rs).map .tup

def argEnv : Nat → List PV → List (Nat × AV)
  | _, [] => []
  | k, a :: as => (k, ofP a) :: argEnv (k + 1) as

section
variable {P : Program} {Z : Zeros} {D : Nat → Nat → Prop} {I : Nat → Prop} {g : Gh} {w : World} {h : Heap} {a : Act}

theorem load_addr {t : TypeId} {v u : Value} (h : (Instr.loadAt t v).run P w = .ok u w) : (do loadVar t (← asAddr v) : Sem Value).run P w = .ok u w := by
  cases v with
  | pointer ao =>
    cases ao with
    | some ad => simpa [Instr.loadAt, Instr.sureAddr, asAddr] using h
    | none => simp [Instr.loadAt, Instr.sureAddr, stuck, Sem.run] at h
  | _ => simp [Instr.loadAt, Instr.sureAddr, stuck, Sem.run] at h

def resF (tmps : Array Value) : ResultVar → Sem Value
  | .tmp t => pure (tmps.getD t undef)
  | .cell a t => do loadVar t (← asAddr (tmps.getD a undef))

theorem ares1_rep {s : St} (ok : StOk D I g w a s) {rv : ResultVar} {v : AV} (e : ares1 P s rv = some v) :
    ∃ u, (resF a.tmps rv).run P w = .ok u w ∧ RA I g w v [u] ∧ v.on D := by
  cases rv with
  | tmp t =>
    simp only [ares1, Option.some.injEq] at e
    subst e
    exact ⟨_, by simp [resF], ok.env t, ok.on t⟩
  | cell t ty =>
    simp only [ares1] at e
    obtain ⟨u, hr, hv, ho⟩ := vload_sound ok.heap e (ok.env t) (ok.on t)
    exact ⟨u, load_addr hr, hv, ho⟩

theorem aresL_rep {s : St} (ok : StOk D I g w a s) : ∀ {rs : List ResultVar} {vs : List AV}, aresL P s rs = some vs → ∃ us, (rs.mapM (resF a.tmps)).run P w = .ok us w ∧ RAEs I g w vs us ∧ AV.ons D vs
  | [], vs, e => by
    simp only [aresL, Option.some.injEq] at e
    subst e
    exact ⟨[], by simp, by simp only [RAEs], by simp only [AV.ons]⟩
  | r :: rs, vs, e => by
    simp only [aresL, Option.bind_eq_some_iff, Option.map_eq_some_iff] at e
    obtain ⟨v, e1, vs', e2, rfl⟩ := e
    obtain ⟨u, h1, h2, o1⟩ := ares1_rep ok e1
    obtain ⟨us, h3, h4, o2⟩ := aresL_rep ok e2
    refine ⟨u :: us, by simp [List.mapM_cons, h1, h3], ?_, by simp only [AV.ons]; exact ⟨o1, o2⟩⟩
    simp only [RAEs]
    exact ⟨u, us, rfl, h2, h4⟩

theorem RAEs_length : ∀ {cs : List AV} {vs : List Value}, RAEs I g w cs vs → vs.length = cs.length
  | [], _, h => by simp only [RAEs] at h; subst h; rfl
  | _ :: cs, _, h => by simp only [RAEs] at h; obtain ⟨_, v2, rfl, _, h2⟩ := h; simp [RAEs_length h2]

theorem aresL_length {s : St} : ∀ {rs : List ResultVar} {vs : List AV}, aresL P s rs = some vs → vs.length = rs.length
  | [], vs, e => by simp only [aresL, Option.some.injEq] at e; subst e; rfl
  | r :: rs, vs, e => by
    simp only [aresL, Option.bind_eq_some_iff, Option.map_eq_some_iff] at e
    obtain ⟨v, e1, vs', e2, rfl⟩ := e
    simp [aresL_length e2]

theorem ares_rep {s : St} (ok : StOk D I g w a s) {fn : Func} {v : AV} (e : ares P fn.results.toList s = some v) : ∃ u, (results fn a.tmps).run P w = .ok u w ∧ RA I g w v [u] ∧ v.on D := by
  have hres : results fn a.tmps = (do let vs ← fn.results.mapM (resF a.tmps); pure (if h : vs.size = 1 then vs[0] else .tuple vs)) := by
    unfold results
    congr 2
  rw [hres]
  unfold ares at e
  split at e
  · rename_i r hr
    obtain ⟨u, h1, h2, o1⟩ := ares1_rep ok e
    refine ⟨u, ?_, h2, o1⟩
    simp [Array.mapM_eq_mapM_toList, hr, h1]
  · rename_i hne
    simp only [Option.map_eq_some_iff] at e
    obtain ⟨vs, e, rfl⟩ := e
    obtain ⟨us, h1, h2, o1⟩ := aresL_rep ok e
    have hlen : us.length = fn.results.toList.length := by
      rw [RAEs_length h2, aresL_length e]
    refine ⟨.tuple us.toArray, ?_, by simp only [RA]; exact ⟨_, rfl, by simpa using h2⟩, by simpa only [AV.on] using o1⟩
    have hn1 : us.length ≠ 1 := by
      rw [hlen]
      intro h
      obtain ⟨r, hr⟩ := List.length_eq_one_iff.1 h
      exact hne r hr
    simp [Array.mapM_eq_mapM_toList, h1, hn1]

theorem argEnv_look {as : List PV} {us : List Value} : ∀ {k : Nat}, REs I w as us → ∀ t, (look (argEnv k as) t = .undef) ∨ ∃ u, k ≤ t ∧ us[t - k]? = some u ∧ RA I g w (look (argEnv k as) t) [u] ∧ ∀ D, (look (argEnv k as) t).on D := by
  induction as generalizing us with
  | nil => intro k _ t; exact .inl rfl
  | cons c cs ih =>
    intro k h t
    simp only [REs] at h
    obtain ⟨v, v2, rfl, h1, h2⟩ := h
    simp only [argEnv, look]
    by_cases e : k = t
    · subst e
      rw [if_pos rfl]
      obtain ⟨h3, h4⟩ := ofP_rep (g := g) h1
      exact .inr ⟨v, Nat.le_refl _, by simp, h3, h4⟩
    · rw [if_neg e]
      rcases ih h2 (k := k + 1) t with h | ⟨u, hle, hu, hr, hon⟩
      · exact .inl h
      · refine .inr ⟨u, by omega, ?_, hr, hon⟩
        rw [show t - k = (t - (k + 1)) + 1 from by omega]
        simpa using hu

/-! ### the function's end -/
/-- the marks' blocks are shut -/
structure Shut (ds : List Deferred) (w w' : World) : Prop where
  os : w'.os = w.os
  tape : w'.tape = w.tape
  output : w'.output = w.output
  size : w'.heap.size = w.heap.size
  same : ∀ b, (({ target := .collected b, args := #[] } : Deferred) ∉ ds) → w'.heap[b]? = w.heap[b]?
  cf : CF w w'

theorem leaves_marks {F : Fence} {n : Nat} {fn : Func} {tmps : Array Value} {R : Ending → World → Prop} : ∀ (ds : List Deferred) (w : World), ds.Nodup →
    (∀ d ∈ ds, ∃ r, d = { target := .collected r, args := #[] } ∧ w.heap[r]? = some (.deferred (some []))) →
    (∀ w', Shut ds w w' → ∃ v, (results fn tmps).run P w' = .ok v w' ∧ R (.returned v) w') → LeavesInM F n P fn tmps R ds .returning w
  | [], w, _, _, h => by
    simp only [LeavesInM, LeavesIn]
    exact h w ⟨rfl, rfl, rfl, rfl, fun _ _ => rfl, CF.refl _⟩
  | d :: ds, w, hnd, hm, h => by
    obtain ⟨r, rfl, hr⟩ := hm d (by simp)
    have hlt : r < w.heap.size := (Array.getElem?_eq_some_iff.1 hr).1
    simp only [LeavesInM]
    refine ⟨by simp, .inl ⟨r, _, rfl, run_takeDeferred hr, ?_⟩⟩
    rw [List.nodup_cons] at hnd
    refine leaves_marks ds _ hnd.2 (fun d hd => ?_) fun w' hs => h w' ⟨hs.os, hs.tape, hs.output, by rw [hs.size]; simp, fun b hb => ?_, ?_⟩
    · obtain ⟨r', rfl, hr'⟩ := hm d (by simp [hd])
      refine ⟨r', rfl, ?_⟩
      rw [World.putObj_heap_other (fun e => hnd.1 (by rw [← e]; exact hd))]
      exact hr'
    · simp only [List.mem_cons, not_or] at hb
      rw [hs.same b hb.2, World.putObj_heap_other (fun e => hb.1 (by rw [e]))]
    · refine CF.trans (CF.of fun b C T fr h2 hne => ?_) hs.cf
      by_cases e : b = r
      · subst e
        rw [World.putObj_heap_same hlt] at h2
        cases h2
      · exact World.putObj_heap_other e

/-- the same memory, as far as it is spoken of -/
theorem HOk.world {w' : World} (ok : HOk D I g w h) (hI : ∀ b, I b → w'.heap[b]? = w.heap[b]?) (ho : ∀ id x b, hlook h id = some x → ownB g id x = some b → w'.heap[b]? = w.heap[b]?) (hs : w.heap.size ≤ w'.heap.size) (hcf : CF w w') : HOk D I g w' h :=
  ⟨fun id x hx => (ok.blk id x hx).mono (ok.dom id x hx) hI (fun _ h => h) (Gh.same.refl _ _) (Gh.kp.refl _) (fun b hb => ho id x b hx hb) (fun _ _ h => h), ok.sep, ok.dom, ok.new.step hcf hs⟩

theorem HOk.own_or {b id : Nat} {x : ABlk} (ok : HOk D I g w h) (hx : hlook h id = some x) (hb : ownB g id x = some b) : Owned g h b ∨ I b := by
  cases hop : x.opn with
  | true => exact .inl ⟨id, x, hx, hop, hb⟩
  | false =>
    right
    have := ok.blk id x hx
    cases x with
    | var cs => simp [ABlk.opn] at hop
    | loop => simp [ABlk.opn] at hop
    | frame env => simp [ownB] at hb
    | rvar cells => simp [ownB] at hb
    | list e sz xs f fl =>
      obtain ⟨_, _, _, hk, _⟩ := this
      simp only [ABlk.opn, Bool.not_eq_false'] at hop
      exact (hk b hb).1.2 hop

theorem StOk.shut {s : St} {ds : List Deferred} {w' : World} (ok : StOk D I g w a s) (hd : DlOk ds I (Owned g s.heap) w) (hs : Shut ds w w') : StOk D I g w' a s := by
  have hI : ∀ b, I b → w'.heap[b]? = w.heap[b]? := fun b hb => hs.same b fun hm => by
    obtain ⟨r, e, _, hi, _⟩ := hd.mark _ hm
    cases e; exact hi hb
  refine ⟨fun t => RA.mono (D := fun _ _ => True) hI (fun _ h => h) (Gh.same.refl _ _) _ _ ((on_all _ (fun _ _ => trivial)).1 _) (ok.env t), ok.on, ok.heap.world hI (fun id x b hx hb => hs.same b fun hm => ?_) (by rw [hs.size]; exact Nat.le_refl _) hs.cf, fun b hb => by rw [hs.size]; exact ok.small b hb⟩
  obtain ⟨r, e, _, hi, hO⟩ := hd.mark _ hm
  cases e
  rcases ok.heap.own_or hx hb with h | h
  · exact hO h
  · exact hi h

/-- WHAT A BODY's WALK SAYS OF THE FUNCTION's CALLS -/
theorem calls_core {f : FuncId} {fn : Func} {c : Code} (hf : P.funcs[f]? = some fn) (hb : fn.body = some c) {rs : List ResultVar} {N : Nat} (hrs : fn.results.toList = rs) (hN : fn.ntmps = N) {s1 : St} {K : AV → St → Prop}
    (h : AWP P N false c s1 (fun e s => (e = .ret ∨ e = .normal) ∧ ∃ v, ares P rs s = some v ∧ K v s)) {vals : Array Value} (hsz : vals.size ≤ N)
    (ok : StOk (Dn s1) I g w { tmps := vals ++ Array.replicate (fn.ntmps - vals.size) undef, defers := [] } s1) :
    Calls P f vals w fun e w' => ∃ u v s' I' g' a', e = .returned u ∧ K v s' ∧ StOk (Dn s') I' g' w' a' s' ∧ RA I' g' w' v [u] ∧ v.on (Dn s') ∧ Fr I (Owned g s1.heap) w I' (Owned g' s'.heap) w' ∧ Gh.kp g g' := by
  subst hrs
  subst hN
  refine (callsIn_wideR (r := none) (n := 0)).1 (callsIn_of_wp_marks hf hb trivial ?_ rfl)
  refine wpIn_mono (h none 0 I g w _ (fun _ => rfl) (by simp; omega) (DlOk.nil _ _ _) ok) ?_
  rintro e a' w' ⟨s2, I2, g2, ⟨he, v, hv, hq⟩, hN', ⟨hdl, hnew⟩, ok2, fr, kp⟩
  have hgoal : LeavesInM (wideR none) 0 P fn a'.tmps (fun e w' => ∃ u v s' I' g' a', e = .returned u ∧ K v s' ∧ StOk (Dn s') I' g' w' a' s' ∧ RA I' g' w' v [u] ∧ v.on (Dn s') ∧ Fr I (Owned g s1.heap) w I' (Owned g' s'.heap) w' ∧ Gh.kp g g') a'.defers .returning w' := by
    refine leaves_marks a'.defers w' hdl.nd (fun d hd => ?_) fun w2 hs => ?_
    · obtain ⟨r, e, hr, _⟩ := hdl.mark d hd
      exact ⟨r, e, hr⟩
    · have ok3 := ok2.shut hdl hs
      obtain ⟨u, hru, hrv, hon⟩ := ares_rep ok3 hv
      refine ⟨u, hru, u, v, s2, I2, g2, a', rfl, hq, ok3, hrv, hon, ?_, kp⟩
      have hold : ∀ b, b < w.heap.size → w2.heap[b]? = w'.heap[b]? := fun b hb => hs.same b fun hm => by
        rcases hnew b hm with h | h
        · cases h
        · omega
      have hsz2 : w'.heap.size ≤ w2.heap.size := by rw [hs.size]; exact Nat.le_refl _
      exact ⟨⟨hs.os.trans fr.below.os, hs.tape.trans fr.below.tape, hs.output.trans fr.below.output, Nat.le_trans fr.below.size hsz2, fun k hk => absurd hk (by omega)⟩, fun b hb ho => (hold b hb).trans (fr.same b hb ho), fr.own, fr.inew, fr.isub, fr.cf.trans hs.cf⟩
  rcases he with rfl | rfl
  · exact hgoal
  · exact hgoal

/-- THE FUNCTION's CONTRACT OUT OF ITS BODY's WALK -/
theorem APure.of_AWP (hz : ZOk P Z) {f : FuncId} {fn : Func} {c : Code} (hf : P.funcs[f]? = some fn) (hb : fn.body = some c) (hname : (fn.name == "runtime.NumGoroutine") = false) {args : List PV} {r : PV} {rs : List ResultVar} {N : Nat} (hrs : fn.results.toList = rs) (hN : fn.ntmps = N) (hlen : args.length ≤ N) {sh : Bool}
    (h : AWP P N false c ⟨argEnv 0 args, [], 0⟩ (fun e s => (e = .ret ∨ e = .normal) ∧ ∃ v, ares P rs s = some v ∧ toP s.heap v = some r ∧ (sh || freshA s.heap v) = true)) : APure P sh f args r := by
  refine ⟨by unfold pfun; rw [hf]; simp [hb, hname], fun I w vals hI hR => ?_⟩
  have hvl : vals.size = args.length := by have := hR.length; simpa using this
  let g : Gh := ⟨fun _ => 0, fun _ _ => .slice none 0 0, fun _ => (#[], 0), w.heap.size⟩
  have hcode := calls_core (I := I) (g := g) (w := w) (vals := vals) hf hb hrs hN h (by omega) ?_
  · refine hcode.mono ?_
    rintro e w' ⟨u, v, s', I', g', a', rfl, ⟨hp, hfr⟩, ok', hrv, hon, fr, kp⟩
    obtain ⟨I2, t2, hR2⟩ := frz_repF v ok'.heap ok'.small hp hrv
    have hbel : Below w.heap.size w w' := ⟨fr.below.os, fr.below.tape, fr.below.output, fr.below.size, fun k hk => fr.same k hk (by rintro ⟨id, x, hx, _⟩; simp [hlook] at hx)⟩
    refine ⟨u, If I2 g' (freshA s'.heap v), rfl, fun b hb => ⟨t2.small b hb.1, ?_⟩, hR2, hbel, fr.cf.trans t2.fr.cf⟩
    cases hf2 : freshA s'.heap v with
    | true =>
      left
      have := hb.2 hf2
      rw [kp.2] at this
      exact this
    | false =>
      rw [hf2, Bool.or_false] at hfr
      have hOempty : ∀ b, ¬ Owned g ([] : Heap) b := by rintro b ⟨id, x, hx, _⟩; simp [hlook] at hx
      rcases t2.fr.inew b hb.1 with h1 | h1 | h1
      · rcases fr.inew b h1 with h2 | h2 | h2
        · exact .inr ⟨hfr, h2⟩
        · exact absurd h2 (hOempty b)
        · exact .inl h2
      · rcases fr.own b h1 with h2 | h2
        · exact absurd h2 (hOempty b)
        · exact .inl h2
      · exact .inl (Nat.le_trans fr.below.size h1)
  · refine ⟨fun t => ?_, fun t => ?_, ⟨fun id x hx => by simp [hlook] at hx, fun id id' x x' k _ hx => by simp [hlook] at hx, fun id x hx => by simp [hlook] at hx, NF.start w⟩, hI⟩
    · rcases argEnv_look (g := g) hR t with h1 | ⟨u, _, hu, hr, _⟩
      · rw [h1]; simp only [RA]; exact ⟨_, rfl⟩
      · have : (vals ++ Array.replicate (fn.ntmps - vals.size) undef).getD t undef = u := by
          have hlt : t < vals.size := by
            have := (List.getElem?_eq_some_iff.1 hu).1
            simpa using this
          rw [Array.getD_eq_getD_getElem?, Array.getElem?_append_left hlt]
          have : vals[t]? = some u := by simpa using hu
          rw [this]; rfl
        rw [this]; exact hr
    · rcases argEnv_look (g := g) hR t with h1 | ⟨u, _, _, _, hon⟩
      · rw [h1]; simp only [AV.on]
      · exact hon _

/-- what holds no memory shares none -/
theorem APure.flat {f : FuncId} {args : List PV} {r : PV} (h : APure P true f args r) (hr : Abs.flat r = true) : APure P false f args r :=
  ⟨h.1, fun I w vals hI hR => (h.2 I w vals hI hR).mono fun e w' ⟨v, J, he, hJ, hRv, hb⟩ => ⟨v, fun _ => False, he, fun _ hf => hf.elim, flat_rep r hr hRv, hb⟩⟩
end
end Go.Abs

namespace Go.Abs
open Go Go.RowKit

mutual
/-- the own lists' ids, in order -/
def hsIds : AV → List Nat
  | .hs id _ => [id]
  | .agg cs => hsIdss cs
  | .tup cs => hsIdss cs
  | _ => []
def hsIdss : List AV → List Nat
  | [] => []
  | c :: cs => hsIds c ++ hsIdss cs
end

/-- the blocks are those of the ids -/
def sameB (h : Heap) : List Nat → List ABlk → Prop
  | [], [] => True
  | i :: is, b :: bs => hlook h i = some b ∧ sameB h is bs
  | _, _ => False

def newRes (sh : Bool) (h : Heap) (v rv : AV) (bs : List ABlk) : Prop :=
  v = renA (hsIds v) rv ∧ sameB h (hsIds v) bs ∧ (hsIds v).Nodup ∧ (sh || (freshA h v && bs.all isFl)) = true

mutual
/-- ids within, lengths that fit -/
def onNew (bs : List ABlk) : AV → Prop
  | .hs id m => m ≤ (bs[id]?.map lenOf).getD 0 ∧ id < bs.length
  | .agg cs => onNews bs cs
  | .tup cs => onNews bs cs
  | .p _ => True
  | _ => False
def onNews (bs : List ABlk) : List AV → Prop
  | [] => True
  | c :: cs => onNew bs c ∧ onNews bs cs
end

mutual
theorem onNew_on {bs : List ABlk} : ∀ (c : AV), onNew bs c → plainA c = true ∧ c.on (newD bs)
  | .p _, _ => by simp [plainA, AV.on]
  | .hs id m, h => by
    simp only [onNew, AV.on] at h ⊢
    refine ⟨by simp [plainA], bs[id], List.getElem?_eq_getElem h.2, ?_⟩
    rw [List.getElem?_eq_getElem h.2] at h
    simpa using h.1
  | .agg cs, h => by simp only [onNew, plainA, AV.on] at h ⊢; exact onNews_on cs h
  | .tup cs, h => by simp only [onNew, plainA, AV.on] at h ⊢; exact onNews_on cs h
  | .ptr _ _, h => by simp [onNew] at h
  | .eptr _ _ _ _ _, h => by simp [onNew] at h
  | .aptr _ _ _, h => by simp [onNew] at h
  | .fn _ _ _, h => by simp [onNew] at h
  | .yld _, h => by simp [onNew] at h
  | .undef, h => by simp [onNew] at h
theorem onNews_on {bs : List ABlk} : ∀ (cs : List AV), onNews bs cs → plainAs cs = true ∧ AV.ons (newD bs) cs
  | [], _ => by simp only [plainAs, AV.ons]; exact ⟨trivial, trivial⟩
  | c :: cs, h => by
    simp only [onNews, plainAs, AV.ons, Bool.and_eq_true] at h ⊢
    have h1 := onNew_on c h.1
    have h2 := onNews_on cs h.2
    exact ⟨⟨h1.1, h2.1⟩, h1.2, h2.2⟩
end

theorem sameB_get {h : Heap} : ∀ {is : List Nat} {bs : List ABlk}, sameB h is bs → is.length = bs.length ∧ ∀ (k : Nat) (x : ABlk), bs[k]? = some x → ∃ i, is[k]? = some i ∧ hlook h i = some x
  | [], [], _ => ⟨rfl, fun k x hx => by simp at hx⟩
  | [], _ :: _, s => s.elim
  | _ :: _, [], s => s.elim
  | i :: is, b :: bs, s => by
    obtain ⟨h1, h2⟩ := s
    obtain ⟨hl, hg⟩ := sameB_get h2
    refine ⟨by simp [hl], fun k x hx => ?_⟩
    cases k with
    | zero => simp at hx; subst hx; exact ⟨i, by simp, h1⟩
    | succ k => simpa using hg k x (by simpa using hx)

theorem nodup_inj {l : List Nat} (h : l.Nodup) {i j : Nat} (hi : i < l.length) (hj : j < l.length) (he : l[i] = l[j]) : i = j := by
  rcases Nat.lt_trichotomy i j with h1 | h1 | h1
  · exact absurd he (List.pairwise_iff_getElem.1 h i j hi hj h1)
  · exact h1
  · exact absurd he.symm (List.pairwise_iff_getElem.1 h j i hj hi h1)

section
variable {P : Program} {Z : Zeros} {D : Nat → Nat → Prop} {I J : Nat → Prop} {g gc : Gh} {w : World} {h : Heap} {a : Act}

mutual
theorem renA_rep {ρ : List Nat} (hh : ∀ k m, gc.hdr k m = g.hdr (ρ.getD k 0) m) : ∀ (c : AV) (vs : List Value), plainA c = true → ((∀ b, I b → J b) ∨ freshA h (renA ρ c) = true) → RA I g w (renA ρ c) vs → RA J gc w c vs
  | .p c, vs, _, hj, r => by
    simp only [renA, RA, freshA] at r hj ⊢
    rcases hj with hj | hj
    · exact R.mono (fun _ _ => rfl) hj c vs r
    · exact flat_rep c hj r
  | .hs id m, vs, _, _, r => by
    simp only [renA, RA] at r ⊢
    rw [hh]; exact r
  | .agg cs, vs, hp, hj, r => by
    simp only [renA, RA, plainA, freshA] at r hp hj ⊢
    obtain ⟨us, e, r⟩ := r
    exact ⟨us, e, renAs_rep hh cs _ hp hj r⟩
  | .tup cs, vs, hp, hj, r => by
    simp only [renA, RA, plainA, freshA] at r hp hj ⊢
    obtain ⟨us, e, r⟩ := r
    exact ⟨us, e, renAs_reps hh cs _ hp hj r⟩
  | .ptr _ _, _, hp, _, _ => by simp [plainA] at hp
  | .eptr _ _ _ _ _, _, hp, _, _ => by simp [plainA] at hp
  | .aptr _ _ _, _, hp, _, _ => by simp [plainA] at hp
  | .fn _ _ _, _, hp, _, _ => by simp [plainA] at hp
  | .yld _, _, hp, _, _ => by simp [plainA] at hp
  | .undef, _, hp, _, _ => by simp [plainA] at hp
theorem renAs_rep {ρ : List Nat} (hh : ∀ k m, gc.hdr k m = g.hdr (ρ.getD k 0) m) : ∀ (cs : List AV) (vs : List Value), plainAs cs = true → ((∀ b, I b → J b) ∨ freshAs h (renAs ρ cs) = true) → RAs I g w (renAs ρ cs) vs → RAs J gc w cs vs
  | [], _, _, _, r => by simpa only [renAs, RAs] using r
  | c :: cs, vs, hp, hj, r => by
    simp only [renAs, RAs, plainAs, freshAs, Bool.and_eq_true] at r hp hj ⊢
    obtain ⟨v1, v2, e, r1, r2⟩ := r
    exact ⟨v1, v2, e, renA_rep hh c v1 hp.1 (hj.imp id (·.1)) r1, renAs_rep hh cs v2 hp.2 (hj.imp id (·.2)) r2⟩
theorem renAs_reps {ρ : List Nat} (hh : ∀ k m, gc.hdr k m = g.hdr (ρ.getD k 0) m) : ∀ (cs : List AV) (vs : List Value), plainAs cs = true → ((∀ b, I b → J b) ∨ freshAs h (renAs ρ cs) = true) → RAEs I g w (renAs ρ cs) vs → RAEs J gc w cs vs
  | [], _, _, _, r => by simpa only [renAs, RAEs] using r
  | c :: cs, vs, hp, hj, r => by
    simp only [renAs, RAEs, plainAs, freshAs, Bool.and_eq_true] at r hp hj ⊢
    obtain ⟨v1, v2, e, r1, r2⟩ := r
    exact ⟨v1, v2, e, renA_rep hh c _ hp.1 (hj.imp id (·.1)) r1, renAs_reps hh cs v2 hp.2 (hj.imp id (·.2)) r2⟩
end

/-- THE CONTRACT OUT OF THE BODY's WALK -/
theorem ANew.of_AWP (hz : ZOk P Z) {f : FuncId} {fn : Func} {c : Code} (hf : P.funcs[f]? = some fn) (hb : fn.body = some c) (hname : (fn.name == "runtime.NumGoroutine") = false) {args : List PV} {rv : AV} {bs : List ABlk} {rs : List ResultVar} {N : Nat} (hrs : fn.results.toList = rs) (hN : fn.ntmps = N) (hlen : args.length ≤ N) {sh : Bool}
    (hl : bs.all isLst = true) (hon0 : onNew bs rv)
    (h : AWP P N false c ⟨argEnv 0 args, [], 0⟩ (fun e s => (e = .ret ∨ e = .normal) ∧ ∃ v, ares P rs s = some v ∧ newRes sh s.heap v rv bs)) : ANew P sh f args rv bs := by
  refine ⟨by unfold pfun; rw [hf]; simp [hb, hname], fun I w vals hI hR => ?_⟩
  have hvl : vals.size = args.length := by have := hR.length; simpa using this
  let g : Gh := ⟨fun _ => 0, fun _ _ => .slice none 0 0, fun _ => (#[], 0), w.heap.size⟩
  have hcode := calls_core (I := I) (g := g) (w := w) (vals := vals) hf hb hrs hN h (by omega) ?_
  · refine hcode.mono ?_
    rintro e w' ⟨u, v, s', I', g', a', rfl, ⟨hv, hsame, hnd, hfr⟩, ok', hrv, hon, fr, kp⟩
    have hbel : Below w.heap.size w w' := ⟨fr.below.os, fr.below.tape, fr.below.output, fr.below.size, fun k hk => fr.same k hk (by rintro ⟨id, x, hx, _⟩; simp [hlook] at hx)⟩
    obtain ⟨hpl, honN⟩ := onNew_on rv hon0
    have hb0 : g'.b0 = w.heap.size := kp.2
    obtain ⟨ρ, hρ⟩ : ∃ ρ, ρ = hsIds v := ⟨_, rfl⟩
    rw [← hρ] at hv hsame hnd
    obtain ⟨hlen2, hget⟩ := sameB_get hsame
    let J : Nat → Prop := fun b => I' b ∧ (sh = false → g'.b0 ≤ b)
    let gc : Gh := { blk := fun _ => 0, hdr := fun k m => g'.hdr (ρ.getD k 0) m, frm := fun _ => (#[], 0), b0 := g'.b0 }
    have hOempty : ∀ b, ¬ Owned g ([] : Heap) b := by rintro b ⟨id, x, hx, _⟩; simp [hlook] at hx
    have hgetD : ∀ {k i : Nat}, ρ[k]? = some i → ρ.getD k 0 = i := fun h => by rw [List.getD_eq_getElem?_getD, h]; rfl
    refine ⟨u, J, gc, rfl, fun b hb => ⟨ok'.small b hb.1, ?_⟩, ?_, honN, ⟨hl, fun k x hx => ?_, fun k k' x x' b hne hx hx' hk hk' => ?_, hb0⟩, hbel, fr.cf⟩
    · cases sh with
      | false => left; rw [← hb0]; exact hb.2 rfl
      | true =>
        rcases fr.inew b hb.1 with h2 | h2 | h2
        · exact .inr ⟨rfl, h2⟩
        · exact absurd h2 (hOempty b)
        · exact .inl h2
    · rw [hv] at hrv
      refine renA_rep (g := g') (h := s'.heap) (fun _ _ => rfl) rv _ hpl ?_ hrv
      cases sh with
      | true => exact .inl fun b hb => ⟨hb, fun h => by cases h⟩
      | false =>
        right
        rw [← hv]
        simp only [Bool.false_or, Bool.and_eq_true] at hfr
        exact hfr.1
    · obtain ⟨i, hi, hlk⟩ := hget k x hx
      have hB := ok'.heap.blk i x hlk
      obtain ⟨e, sz, xs, f, fl, rfl⟩ := isLst_of hl hx
      obtain ⟨vals, h1, h2, h3, h4⟩ := hB
      have hh : gc.hdr k xs.length = g'.hdr i xs.length := by show g'.hdr (ρ.getD k 0) xs.length = _; rw [hgetD hi]
      have hfl : sh = false → fl = true := fun hs => by
        subst hs
        simp only [Bool.false_or, Bool.and_eq_true] at hfr
        simpa [isFl] using List.all_eq_true.1 hfr.2 _ (List.mem_of_getElem? hx)
      refine ⟨vals, by rw [hh]; exact h1, RC.mono (fun _ _ => rfl) (fun b hb' => ⟨⟨hb'.1, fun hs => hb'.2 (hfl hs)⟩, hb'.2⟩) h2, fun b hb' => ?_, h4⟩
      rw [hh] at hb'
      obtain ⟨h5, h6⟩ := h3 b hb'
      exact ⟨⟨fun hj => h5.1 hj.1, fun hf => ⟨h5.2 hf, fun _ => h6⟩⟩, h6⟩
    · obtain ⟨i, hi, hlk⟩ := hget k x hx
      obtain ⟨i', hi', hlk'⟩ := hget k' x' hx'
      obtain ⟨e, sz, xs, f, fl, rfl⟩ := isLst_of hl hx
      obtain ⟨e', sz', xs', f', fl', rfl⟩ := isLst_of hl hx'
      have hne' : i ≠ i' := fun he => hne (by
        obtain ⟨hk1, rfl⟩ := List.getElem?_eq_some_iff.1 hi
        obtain ⟨hk2, he2⟩ := List.getElem?_eq_some_iff.1 hi'
        exact nodup_inj hnd hk1 hk2 (he.trans he2.symm))
      refine ok'.heap.sep i i' _ _ b hne' hlk hlk' ?_ ?_
      · have : gc.hdr k xs.length = g'.hdr i xs.length := by show g'.hdr (ρ.getD k 0) xs.length = _; rw [hgetD hi]
        simpa only [ownB, this] using hk
      · have : gc.hdr k' xs'.length = g'.hdr i' xs'.length := by show g'.hdr (ρ.getD k' 0) xs'.length = _; rw [hgetD hi']
        simpa only [ownB, this] using hk'
  · refine ⟨fun t => ?_, fun t => ?_, ⟨fun id x hx => by simp [hlook] at hx, fun id id' x x' k _ hx => by simp [hlook] at hx, fun id x hx => by simp [hlook] at hx, NF.start w⟩, hI⟩
    · rcases argEnv_look (g := g) hR t with h1 | ⟨u, _, hu, hr, _⟩
      · rw [h1]; simp only [RA]; exact ⟨_, rfl⟩
      · have : (vals ++ Array.replicate (fn.ntmps - vals.size) undef).getD t undef = u := by
          have hlt : t < vals.size := by
            have := (List.getElem?_eq_some_iff.1 hu).1
            simpa using this
          rw [Array.getD_eq_getD_getElem?, Array.getElem?_append_left hlt]
          have : vals[t]? = some u := by simpa using hu
          rw [this]; rfl
        rw [this]; exact hr
    · rcases argEnv_look (g := g) hR t with h1 | ⟨u, _, _, _, hon⟩
      · rw [h1]; simp only [AV.on]
      · exact hon _

/-- as a value -/
theorem ANew.plain {sh : Bool} {f : FuncId} {args : List PV} {r : PV} (h : ANew P sh f args (.p r) []) : APure P sh f args r :=
  ⟨h.1, fun I w vals hI hR => (h.2 I w vals hI hR).mono fun e w' ⟨v, J, gc, he, hJ, hRv, _, _, hb⟩ => ⟨v, J, he, hJ, by simpa only [RA] using hRv, hb⟩⟩
end
end Go.Abs
