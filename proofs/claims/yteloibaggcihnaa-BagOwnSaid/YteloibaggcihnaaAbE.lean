/-
  Code that turns new memory alone; arguments that come in.
-/
import Derived.Test.YteloibaggcihnaaAbD
import Derived.ProofKit
import Derived.OpenShut
import Derived.ChangeOld
import Derived.Below
set_option linter.all false
set_option linter.unusedVariables false
set_option linter.unusedSimpArgs false

namespace Go.Abs
open Go Go.RowKit

/-! ### what is known of temporaries -/
abbrev JE := List (Nat × Value)
def lk : JE → Nat → Option Value
  | [], _ => none
  | (i, v) :: r, j => if i = j then some v else lk r j
def JEnv (a : Act) (e : JE) : Prop := ∀ t v, lk e t = some v → a.tmps.getD t undef = v
def evj (e : JE) : Operand → Option Value
  | .tmp t => lk e t
  | .const v => some v
  | _ => none
def putJ (e : JE) (d : Option Nat) (v : Value) : JE :=
  match d with
  | some d => (d, v) :: e
  | none => e

theorem JEnv.ev {a : Act} {e : JE} (h : JEnv a e) {x : Operand} {v : Value} (hx : evj e x = some v) : a.eval x = v := by
  cases x with
  | tmp t => exact h t v hx
  | const c => simp only [evj, Option.some.injEq] at hx; subst hx; rfl
  | _ => simp [evj] at hx

theorem JEnv.put {a : Act} {e : JE} (h : JEnv a e) {d : Option Nat} (hd : ∀ x, d = some x → x < a.tmps.size) (v : Value) : JEnv (a.put d v) (putJ e d v) := by
  cases d with
  | none => exact h
  | some x =>
    intro t u hu
    simp only [putJ, lk] at hu
    simp only [Act.put]
    split at hu
    · rename_i e1; subst e1; cases hu
      rw [Array.getD_eq_getD_getElem?, Array.getElem?_setIfInBounds_self_of_lt (hd x rfl)]; rfl
    · rename_i e1
      rw [Array.getD_eq_getD_getElem?, Array.getElem?_setIfInBounds_ne e1, ← Array.getD_eq_getD_getElem?]
      exact h t u hu

/-! ### codes -/
def JPost (N : Nat) (a : Act) (Q : Exit → JE → World → Prop) : Exit → Act → World → Prop := fun x a' w' => a'.tmps.size = N ∧ a'.defers = a.defers ∧ ∃ e', JEnv a' e' ∧ Q x e' w'
def JW (P : Program) (N : Nat) (c : Code) (e : JE) (w : World) (Q : Exit → JE → World → Prop) : Prop :=
  ∀ (n : Nat) (a : Act), a.tmps.size = N → JEnv a e → c.wpIn (wideR none) n P (JPost N a Q) a w

section
variable {P : Program} {Z : Zeros} {N : Nat} {e : JE} {w : World} {Q : Exit → JE → World → Prop}

theorem JPost.trans {a a1 a2 : Act} {w2 : World} {x : Exit} (hd : a1.defers = a.defers) (h : JPost N a1 Q x a2 w2) : JPost N a Q x a2 w2 := ⟨h.1, h.2.1.trans hd, h.2.2⟩
theorem JPost.mono {Q' : Exit → JE → World → Prop} {a a2 : Act} {w2 : World} {x : Exit} (hq : ∀ e w, Q x e w → Q' x e w) (h : JPost N a Q x a2 w2) : JPost N a Q' x a2 w2 := by
  obtain ⟨h1, h2, e', h3, h4⟩ := h
  exact ⟨h1, h2, e', h3, hq _ _ h4⟩

theorem JW.mono {Q' : Exit → JE → World → Prop} {c : Code} (h : JW P N c e w Q) (hq : ∀ x e w, Q x e w → Q' x e w) : JW P N c e w Q' :=
  fun n a hN he => wpIn_mono (h n a hN he) fun x _ _ hp => hp.mono (hq x)

def thenJ (K : JE → World → Prop) (Q : Exit → JE → World → Prop) : Exit → JE → World → Prop
  | .normal, e, w => K e w
  | x, e, w => Q x e w

theorem JW.seq {c d : Code} (h : JW P N c e w (thenJ (fun e' w' => JW P N d e' w' Q) Q)) : JW P N (.seq c d) e w Q := by
  intro n a hN he
  refine wpIn_seq (wpIn_mono (h n a hN he) ?_)
  rintro x a' w' ⟨hN', hd', e', he', q⟩
  cases x with
  | normal => exact wpIn_mono (q n a' hN' he') fun _ _ _ hp => hp.trans hd'
  | _ => exact ⟨hN', hd', e', he', q⟩

theorem JW.skip (h : Q .normal e w) : JW P N .skip e w Q := fun _ _ hN he => wpIn_skip ⟨hN, rfl, e, he, h⟩
theorem JW.exit {id : Nat} (h : Q (.exit id) e w) : JW P N (.exit id) e w Q := fun _ _ hN he => wpIn_exit ⟨hN, rfl, e, he, h⟩

def blockJ (id : Nat) (Q : Exit → JE → World → Prop) : Exit → JE → World → Prop
  | .exit id', e, w => if id' = id then Q .normal e w else Q (.exit id') e w
  | x, e, w => Q x e w

theorem JW.block {id : Nat} {c : Code} (h : JW P N c e w (blockJ id Q)) : JW P N (.block id c) e w Q := by
  intro n a hN he
  refine wpIn_block (wpIn_mono (h n a hN he) ?_)
  rintro x a' w' ⟨hN', hd', e', he', q⟩
  cases x with
  | exit id' =>
    simp only [blockJ] at q
    simp only [Exit.inBlock]
    split
    · rename_i hid; rw [if_pos hid] at q; exact ⟨hN', hd', e', he', q⟩
    · rename_i hid; rw [if_neg hid] at q; exact ⟨hN', hd', e', he', q⟩
  | _ => exact ⟨hN', hd', e', he', q⟩

theorem JW.cond {c : Operand} {x y : Code} {t : Bool} (hc : evj e c = some (.bool t)) (h1 : t = true → JW P N x e w Q) (h2 : t = false → JW P N y e w Q) : JW P N (.cond c x y) e w Q :=
  fun n a hN he => wpIn_cond_split (he.ev hc) (fun q => h1 q n a hN he) (fun q => h2 q n a hN he)

/-- less is known -/
def subJ (e' e : JE) : Prop := ∀ t v, lk e' t = some v → lk e t = some v

theorem JW.loop {c : Code} (J : Nat → JE → World → Prop) (h0 : ∃ k e0, subJ e0 e ∧ J k e0 w)
    (hr : ∀ k e w, J k e w → JW P N c e w (thenJ (fun e' w' => ∃ m e'', m < k ∧ subJ e'' e' ∧ J m e'' w') Q)) : JW P N (.loop c) e w Q := by
  intro n a hN he
  obtain ⟨k0, e0, hs0, hj0⟩ := h0
  let Inv : Act → World → Nat → Prop := fun a' w' k => ∃ e', J k e' w' ∧ a'.tmps.size = N ∧ a'.defers = a.defers ∧ JEnv a' e'
  classical
  let mu : Act → World → Nat := fun a' w' => if h : ∃ k, Inv a' w' k then (least h).choose else 0
  have hmu : ∀ a' w' k, Inv a' w' k → mu a' w' ≤ k := fun a' w' k hk => by
    have h : ∃ k, Inv a' w' k := ⟨k, hk⟩
    show (if h : ∃ k, Inv a' w' k then (least h).choose else 0) ≤ k
    rw [dif_pos h]
    exact (least h).choose_spec.2 k hk
  have hat : ∀ a' w', (∃ k, Inv a' w' k) → Inv a' w' (mu a' w') := fun a' w' h => by
    show Inv a' w' (if h : ∃ k, Inv a' w' k then (least h).choose else 0)
    rw [dif_pos h]
    exact (least h).choose_spec.1
  refine wpIn_loop (fun a' w' => ∃ k, Inv a' w' k) mu ⟨k0, e0, hj0, hN, rfl, fun t v h => he t v (hs0 t v h)⟩ fun a' w' hI => ?_
  obtain ⟨e', hj', hN', hd', he'⟩ := hat a' w' hI
  refine wpIn_mono (hr _ e' w' hj' n a' hN' he') ?_
  rintro x a2 w2 ⟨hN2, hd2, e2, he2, q⟩
  cases x with
  | normal =>
    obtain ⟨m, e3, hlt, hs, hj⟩ := q
    have hinv : Inv a2 w2 m := ⟨e3, hj, hN2, hd2.trans hd', fun t v h => he2 t v (hs t v h)⟩
    exact ⟨⟨m, hinv⟩, Nat.lt_of_le_of_lt (hmu _ _ _ hinv) hlt⟩
  | _ => exact ⟨hN2, hd2.trans hd', e2, he2, q⟩

/-! ### operations -/
structure JRun (P : Program) (o : Oper) (e : JE) (w : World) (v : Value) (w' : World) : Prop where
  gd : o.guard = none
  df : ∀ c, o.op ≠ .defer c
  run : ∀ ρ : Operand → Value, (∀ x v, evj e x = some v → x ∈ o.op.operands → ρ x = v) → (execOp ρ o).run P w = .ok (.value v) w' ∨ ((execOp ρ o).run P w = .ok .skip w' ∧ v = undef)

theorem JRun.step {o : Oper} {v : Value} {w' : World} (h : JRun P o e w v w') {n : Nat} {a : Act} (he : JEnv a e) {next : Act → World → Prop} {Q : Exit → Act → World → Prop} (k : next (a.put o.dst v) w') : o.wpIn (wideR none) n P a w next Q := by
  refine ⟨fun f _ => trivial, ?_⟩
  rw [Oper.semAt_eq _ _ _ h.df]
  rcases h.run a.eval (fun x v hx _ => he.ev hx) with hr | ⟨hr, rfl⟩
  · rw [hr]; exact k
  · rw [hr]; exact k

def jops (P : Program) : List Oper → JE → World → (JE → World → Prop) → Prop
  | [], e, w, K => K e w
  | o :: r, e, w, K => ∃ v w', JRun P o e w v w' ∧ jops P r (putJ e o.dst v) w' K

theorem jops_sound {ops : Array Oper} {K : JE → World → Prop} {Q : Exit → Act → World → Prop} {dl : List Deferred} {n : Nat} (hQ : ∀ e' a' w', K e' w' → a'.tmps.size = N → a'.defers = dl → JEnv a' e' → Q .normal a' w') :
    ∀ (l : List Oper) (k : Nat), (∀ j, l[j]? = ops[k + j]?) → (∀ o ∈ l, ∀ d, o.dst = some d → d < N) → ∀ (e : JE) (w : World) (a : Act), a.tmps.size = N → a.defers = dl → JEnv a e → jops P l e w K → wpOpsIn (wideR none) n P ops Q (List.range' k l.length) a w
  | [], k, _, _, e, w, a, hN, hdl, he, hv => by
    simp only [List.length_nil, List.range'_zero, wpOpsIn]
    exact hQ e a w hv hN hdl he
  | o :: l, k, hk, hd, e, w, a, hN, hdl, he, hv => by
    have h0 : ops[k]? = some o := by simpa using (hk 0).symm
    have hk' : ∀ j, l[j]? = ops[k + 1 + j]? := fun j => by have := hk (j + 1); simpa [Nat.add_assoc, Nat.add_comm 1 j] using this
    obtain ⟨v, w', hrun, hv⟩ := hv
    simp only [List.length_cons, List.range'_succ, wpOpsIn, h0]
    rw [if_pos (by simp [Region.wanted, hrun.gd])]
    exact hrun.step he (jops_sound hQ l (k + 1) hk' (fun o ho => hd o (by simp [ho])) _ w' _ (by rw [put_size, hN]) (by rw [put_defers, hdl]) (he.put (fun x hx => by rw [hN]; exact hd o (by simp) x hx) v) hv)

theorem JW.region {id : Nat} {l : List Oper} (hd : dstOk N l = true) (h : jops P l e w (Q .normal)) : JW P N (.region id l.toArray false) e w Q := by
  intro n a hN he
  refine wpIn_region ?_
  rw [List.range_eq_range', ← Array.length_toList]
  exact jops_sound (Q := JPost N a Q) (dl := a.defers) (fun e' a' w' hk hN' hdl' he' => ⟨hN', hdl', e', he', hk⟩) l 0 (by simp) (dstOk_spec hd) e w a hN rfl he h

/-! ### a drawn region: all but its last operation leave memory as it is, and the last waits for all -/
def jqs (P : Program) : List Oper → JE → World → (JE → Prop) → Prop
  | [], e, _, K => K e
  | o :: r, e, w, K => ∃ v, JRun P o e w v w ∧ jqs P r (putJ e o.dst v) w K

theorem jqs_ex : ∀ {l : List Oper} {e : JE} {K : JE → Prop}, jqs P l e w K → ∃ (E : Nat → JE) (V : Nat → Value), E 0 = e ∧ (∀ (i : Nat) o, l[i]? = some o → JRun P o (E i) w (V i) w ∧ E (i + 1) = putJ (E i) o.dst (V i)) ∧ K (E l.length)
  | [], e, _, h => ⟨fun _ => e, fun _ => undef, rfl, fun i o h => by simp at h, h⟩
  | o :: r, e, K, ⟨v, hr, h⟩ => by
    obtain ⟨E, V, h0, h1, h2⟩ := jqs_ex h
    refine ⟨fun i => match i with | 0 => e | i + 1 => E i, fun i => match i with | 0 => v | i + 1 => V i, rfl, fun i o' ho => ?_, h2⟩
    cases i with
    | zero => simp only [List.getElem?_cons_zero, Option.some.injEq] at ho; subst ho; exact ⟨hr, h0⟩
    | succ i => exact h1 i o' (by simpa using ho)

/-- each temporary is set once, and not looked at before; who looks at it waits for it; the last waits for all -/
def okJ (l : List Oper) : Bool :=
  (List.range l.length).all fun j =>
    match l[j]? with
    | some y => (y.after.toList.all fun e => !Region.binds .any e || decide (e.on < j)) && !hitT y.dst (tmpsOf y.op.operands.toList) && (List.range j).all fun i =>
        match l[i]? with
        | some x => !hitT y.dst (tmpsOf x.op.operands.toList) && (match x.dst with | some d => y.dst != some d | none => true) &&
            ((!hitT x.dst (tmpsOf y.op.operands.toList) && decide (j + 1 < l.length)) || isAnc l.toArray l.length i j)
        | none => true
    | none => true

theorem mem_tmpsOf {t : Nat} {xs : List Operand} (h : Operand.tmp t ∈ xs) : t ∈ tmpsOf xs := by
  induction xs with
  | nil => cases h
  | cons x xs ih =>
    rcases List.mem_cons.1 h with rfl | h1
    · simp [tmpsOf]
    · have := ih h1
      cases x <;> simp [tmpsOf, this]

theorem JW.region_draw (hm : P.follows .mixedOrders = true) {id : Nat} {l : List Oper} {o1 : Oper} (hd : dstOk N (l ++ [o1]) = true) (hok : okJ (l ++ [o1]) = true)
    (h : jqs P l e { w with drawn := w.drawn + 1 } fun e' => ∃ v w', JRun P o1 e' { w with drawn := w.drawn + 1 } v w' ∧ Q .normal (putJ e' o1.dst v) w') : JW P N (.region id (l ++ [o1]).toArray true) e w Q := by
  intro n a hN he
  refine wpIn_region_any hm ?_
  obtain ⟨E, V, hE0, hE, v1, w', hr1, hq⟩ := jqs_ex h
  have hsz : (l ++ [o1]).toArray.size = l.length + 1 := by simp
  rw [hsz]
  have hget : ∀ (i : Nat) o, (l ++ [o1]).toArray[i]? = some o → (i < l.length ∧ l[i]? = some o) ∨ (i = l.length ∧ o = o1) := by
    intro i o ho
    simp only [List.getElem?_toArray] at ho
    rcases Nat.lt_or_ge i l.length with h1 | h1
    · rw [List.getElem?_append_left h1] at ho; exact .inl ⟨h1, ho⟩
    · rw [List.getElem?_append_right h1] at ho
      have : i - l.length = 0 := by
        have := (List.getElem?_eq_some_iff.1 ho).1
        simp at this; omega
      rw [this] at ho
      simp at ho
      exact .inr ⟨by omega, ho.symm⟩
  have hgl : ∀ (i : Nat) o, l[i]? = some o → (l ++ [o1])[i]? = some o := fun i o h => by rw [List.getElem?_append_left (List.getElem?_eq_some_iff.1 h).1]; exact h
  have hgL : (l ++ [o1])[l.length]? = some o1 := by simp
  simp only [okJ, List.all_eq_true, List.mem_range] at hok
  -- what the check says
  have hwf : ∀ j o, (l ++ [o1]).toArray[j]? = some o → ∀ e ∈ o.after.toList, Region.binds .any e = true → e.on < j := by
    intro j o ho e he hb
    have ho' : (l ++ [o1])[j]? = some o := by simpa using ho
    have := hok j (List.getElem?_eq_some_iff.1 ho').1
    rw [ho'] at this
    simp only [Bool.and_eq_true, List.all_eq_true, Bool.or_eq_true, Bool.not_eq_true', decide_eq_true_eq] at this
    rcases this.1.1 e he with h | h
    · rw [h] at hb; cases hb
    · exact h
  have hself : ∀ (j : Nat) o d, (l ++ [o1])[j]? = some o → o.dst = some d → d ∉ tmpsOf o.op.operands.toList := by
    intro j o d ho hd' hmem
    have := hok j (List.getElem?_eq_some_iff.1 ho).1
    rw [ho] at this
    simp only [Bool.and_eq_true, Bool.not_eq_true'] at this
    rw [hitT_spec hd' hmem] at this
    simp at this
  have hpair : ∀ (i j : Nat) x y, i < j → (l ++ [o1])[i]? = some x → (l ++ [o1])[j]? = some y → (∀ d, y.dst = some d → d ∉ tmpsOf x.op.operands.toList ∧ x.dst ≠ some d) ∧ (((∀ d, x.dst = some d → d ∉ tmpsOf y.op.operands.toList) ∧ j + 1 < l.length + 1) ∨ isAnc (l ++ [o1]).toArray (l.length + 1) i j = true) := by
    intro i j x y hij hx hy
    have := hok j (List.getElem?_eq_some_iff.1 hy).1
    rw [hy] at this
    simp only [Bool.and_eq_true, List.all_eq_true, List.mem_range] at this
    have h2 := this.2 i hij
    rw [hx] at h2
    simp only [Bool.and_eq_true, Bool.not_eq_true', Bool.or_eq_true, decide_eq_true_eq, List.length_append, List.length_singleton] at h2
    refine ⟨fun d hyd => ⟨fun hmem => ?_, fun hxd => ?_⟩, ?_⟩
    · rw [hitT_spec hyd hmem] at h2; simp at h2
    · have := h2.1.2
      rw [hxd, hyd] at this
      simp at this
    · rcases h2.2 with h3 | h3
      · exact .inl ⟨fun d hxd hmem => by rw [hitT_spec hxd hmem] at h3; simp at h3, h3.2⟩
      · exact .inr h3
  -- what is known of a temporary, from i on
  have hstay : ∀ (j i : Nat) t, i ≤ j → j ≤ l.length → (∀ k o, i ≤ k → k < j → l[k]? = some o → o.dst ≠ some t) → lk (E j) t = lk (E i) t := by
    intro j
    induction j with
    | zero => intro i t h1 _ _; rw [show i = 0 from by omega]
    | succ j ih =>
      intro i t h1 h2 h3
      rcases Nat.lt_or_ge j i with h4 | h4
      · rw [show i = j + 1 from by omega]
      · have ho : l[j]? = some l[j] := by simp [show j < l.length from by omega]
        rw [(hE j _ ho).2]
        have hne := h3 j _ h4 (by omega) ho
        have : lk (putJ (E j) (l[j]).dst (V j)) t = lk (E j) t := by
          cases hq : (l[j]).dst with
          | none => rfl
          | some d =>
            simp only [putJ, lk]
            rw [if_neg (fun e1 => hne (by rw [hq, e1]))]
        rw [this]
        exact ih i t h4 (by omega) fun k o hk1 hk2 => h3 k o hk1 (by omega)
  let Kn : Array Bool → Nat → Value → Prop := fun listed t v => lk (E l.length) t = some v ∧ ∀ (i : Nat) o, l[i]? = some o → o.dst = some t → listed.getD i false = true
  have hunl : ∀ n, unl n (Array.replicate n false) ≤ n := fun n => by
    unfold unl
    refine Nat.le_trans (List.length_filter_le _ _) (by simp)
  have hrep : ∀ i, (Array.replicate (l.length + 1) false).getD i false = false := fun i => by
    simp only [Array.getD_eq_getD_getElem?, Array.getElem?_replicate]
    split <;> rfl
  have main : ∀ (fuel : Nat) (listed : Array Bool) (a' : Act), listed.size = l.length + 1 → unl (l.length + 1) listed ≤ fuel → listed.getD l.length false = false →
      (∀ j o, (l ++ [o1]).toArray[j]? = some o → listed.getD j false = true → ∀ e ∈ o.after.toList, Region.binds .any e = true → listed.getD e.on false = true) →
      (∀ t v, Kn listed t v → a'.tmps.getD t undef = v) → a'.tmps.size = N → a'.defers = a.defers →
      wpAnyIn (wideR none) n P .any (l ++ [o1]).toArray (JPost N a Q) fuel listed a' { w with drawn := w.drawn + 1 } := by
    intro fuel
    induction fuel with
    | zero =>
      intro listed a' hs hf hl1 _ _ _ _
      exfalso
      have : l.length ∈ (List.range (l.length + 1)).filter fun i => !listed.getD i true := by
        rw [List.mem_filter]
        refine ⟨List.mem_range.2 (by omega), ?_⟩
        rw [getD_tf (by omega), hl1]; rfl
      unfold unl at hf
      have h0 := List.length_pos_of_mem this
      omega
    | succ fuel ih =>
      intro listed a' hs hf hl1 hcl hkn hN' hd'
      refine ⟨fun hr => ?_, fun j hj => ?_⟩
      · exfalso
        have := all_listed (by rw [hsz]; exact hs) hwf hr l.length (by rw [hsz]; omega)
        rw [hl1] at this; cases this
      obtain ⟨hju, o, ho, hpre⟩ := mem_ready.1 hj
      have hjlt : j < l.length + 1 := by have := (Array.getElem?_eq_some_iff.1 ho).1; simpa using this
      have hjf : listed.getD j false = false := by rw [← getD_tf (by omega)]; exact hju
      have hpre' : ∀ e ∈ o.after.toList, Region.binds .any e = true → listed.getD e.on false = true := fun e he hb => hpre e (by simpa using he) hb
      have ho' : (l ++ [o1])[j]? = some o := by simpa using ho
      have hanc : ∀ i, isAnc (l ++ [o1]).toArray (l.length + 1) i j = true → listed.getD i false = true := fun i h =>
        isAnc_listed (listed := fun i => listed.getD i false = true) hcl _ i j o ho hpre' h
      have hset : ∀ i, (listed.setIfInBounds j true).getD i false = true ↔ i = j ∨ listed.getD i false = true := by
        intro i
        by_cases hij : i = j
        · subst hij
          simp [Array.getD_eq_getD_getElem?, Array.getElem?_setIfInBounds_self_of_lt (show i < listed.size by omega)]
        · simp only [Array.getD_eq_getD_getElem?, Array.getElem?_setIfInBounds_ne (Ne.symm hij), hij, false_or]
      -- what the operation looks at is known
      have hops : ∀ (m : Nat), m ≤ l.length → m = j → ∀ x v, evj (E m) x = some v → x ∈ o.op.operands → a'.eval x = v := by
        intro m hm hmj x v hx hxm
        cases x with
        | const c => simp only [evj, Option.some.injEq] at hx; subst hx; rfl
        | tmp t =>
          have ht : t ∈ tmpsOf o.op.operands.toList := mem_tmpsOf (by simpa using hxm)
          refine hkn t v ⟨?_, fun i oi hi hdi => ?_⟩
          · rw [← hx]
            simp only [evj]
            refine hstay _ _ t hm (Nat.le_refl _) fun k ok hk1 hk2 hok' hkd => ?_
            rcases Nat.lt_or_ge j k with hjk | hjk
            · exact ((hpair j k o ok hjk ho' (hgl k ok hok')).1 t hkd).1 ht
            · have : k = j := by omega
              subst this
              have e1 : ok = o := Option.some.inj ((hgl k ok hok').symm.trans ho')
              exact hself k ok t (hgl k ok hok') hkd (by rw [e1]; exact ht)
          · have hil := (List.getElem?_eq_some_iff.1 hi).1
            rcases Nat.lt_trichotomy i j with h1 | h1 | h1
            · rcases (hpair i j oi o h1 (hgl i oi hi) ho').2 with h2 | h2
              · exact absurd ht (h2.1 t hdi)
              · exact hanc i h2
            · subst h1
              have e1 : oi = o := Option.some.inj ((hgl i oi hi).symm.trans ho')
              exact absurd ht (e1 ▸ hself i oi t (hgl i oi hi) hdi)
            · exact absurd ht ((hpair j i o oi h1 ho' (hgl i oi hi)).1 t hdi).1
        | _ => simp [evj] at hx
      have hdst : ∀ d, o.dst = some d → d < N := by
        intro d hdd
        exact dstOk_spec hd o (List.mem_of_getElem? ho') d hdd
      have hstep : ∀ {e0 : JE} {v : Value} {w2 : World} {K : Act → World → Prop}, JRun P o e0 { w with drawn := w.drawn + 1 } v w2 → (∀ x v, evj e0 x = some v → x ∈ o.op.operands → a'.eval x = v) → K (a'.put o.dst v) w2 →
          wpOpIn (wideR none) n P (l ++ [o1]).toArray (JPost N a Q) j K a' { w with drawn := w.drawn + 1 } := by
        intro e0 v w2 K hrun hev hk
        unfold wpOpIn
        rw [ho]
        dsimp only
        rw [if_pos (by simp [Region.wanted, hrun.gd])]
        refine ⟨fun f _ => trivial, ?_⟩
        rw [Oper.semAt_eq _ _ _ hrun.df]
        rcases hrun.run a'.eval hev with hr | ⟨hr, rfl⟩
        · rw [hr]; exact hk
        · rw [hr]; exact hk
      rcases hget j o ho with ⟨hjl, hoj⟩ | ⟨hjl, rfl⟩
      · obtain ⟨hrun, hEj⟩ := hE j o hoj
        refine hstep hrun (hops j (by omega) rfl) ?_
        refine ih _ _ (by simpa using hs) ?_ ?_ ?_ ?_ (by rw [put_size, hN']) (by rw [put_defers, hd'])
        · have := unl_set hs hjlt hju; omega
        · cases hq : (listed.setIfInBounds j true).getD l.length false with
          | false => rfl
          | true =>
            rcases (hset _).1 hq with h1 | h1
            · omega
            · rw [hl1] at h1; cases h1
        · intro k ok hok' hlk e he' hb
          refine (hset _).2 ?_
          rcases (hset _).1 hlk with h1 | h1
          · subst h1
            rw [ho] at hok'; cases hok'
            exact .inr (hpre' e he' hb)
          · exact .inr (hcl k ok hok' h1 e he' hb)
        · rintro t v ⟨hv, hall⟩
          by_cases htd : o.dst = some t
          · have hval : lk (E (j + 1)) t = some (V j) := by rw [hEj, htd]; simp [putJ, lk]
            have hlast : lk (E l.length) t = lk (E (j + 1)) t := by
              refine hstay _ _ t (by omega) (Nat.le_refl _) fun k ok hk1 hk2 hok' hkd => ?_
              exact ((hpair j k o ok (by omega) ho' (hgl k ok hok')).1 t hkd).2 htd
            rw [hlast, hval] at hv
            cases hv
            rw [htd]
            simp only [Act.put]
            rw [Array.getD_eq_getD_getElem?, Array.getElem?_setIfInBounds_self_of_lt (by rw [hN']; exact hdst t htd)]; rfl
          · have hk0 : a'.tmps.getD t undef = v := by
              refine hkn t v ⟨hv, fun i oi hi hdi => ?_⟩
              rcases (hset i).1 (hall i oi hi hdi) with h1 | h1
              · subst h1; rw [hoj] at hi; cases hi; exact absurd hdi htd
              · exact h1
            cases hq : o.dst with
            | none => exact hk0
            | some d =>
              simp only [Act.put]
              rw [Array.getD_eq_getD_getElem?, Array.getElem?_setIfInBounds_ne (fun e1 => htd (by rw [hq, e1])), ← Array.getD_eq_getD_getElem?]
              exact hk0
      · subst hjl
        have hallL : ∀ i, i < l.length → listed.getD i false = true := by
          intro i hi
          have hx : l[i]? = some l[i] := by simp [hi]
          rcases (hpair i l.length _ o hi (hgl i _ hx) ho').2 with h2 | h2
          · omega
          · exact hanc i h2
        have heF : JEnv a' (E l.length) := fun t v hv => hkn t v ⟨hv, fun i oi hi _ => hallL i (List.getElem?_eq_some_iff.1 hi).1⟩
        refine hstep hr1 (hops l.length (Nat.le_refl _) rfl) ?_
        refine wpAnyIn_done ?_ ⟨by rw [put_size, hN'], by rw [put_defers, hd'], _, heF.put (fun x hx => by rw [hN']; exact hdst x hx) v1, hq⟩ fuel
        rw [List.eq_nil_iff_forall_not_mem]
        intro i hi
        obtain ⟨hu, oi, hoi, _⟩ := mem_ready.1 hi
        have hlt : i < l.length + 1 := by have := (Array.getElem?_eq_some_iff.1 hoi).1; simpa using this
        rw [getD_tf (by simp; omega)] at hu
        rw [(hset i).2 (by rcases Nat.lt_or_ge i l.length with h1 | h1
                           · exact .inr (hallL i h1)
                           · exact .inl (by omega))] at hu
        cases hu
  refine main _ _ a (by simp) (hunl _) (hrep _) (fun j o _ hl => by rw [hrep] at hl; cases hl) ?_ hN rfl
  rintro t v ⟨hv, hall⟩
  have : lk (E l.length) t = lk (E 0) t := hstay _ _ t (Nat.zero_le _) (Nat.le_refl _) fun k o _ _ ho hkd => by
    have := hall k o ho hkd
    rw [hrep] at this; cases this
  rw [this, hE0] at hv
  exact he t v hv

end
end Go.Abs

namespace Go.Abs
open Go Go.RowKit

/-- what lay below m stays; each cell stays, or is a number of its kind -/
structure Jw (m : Nat) (w w' : World) : Prop where
  below : Below 0 w w'
  cf : CF w w'
  old : ∀ b, b < m → w'.heap[b]? = w.heap[b]?
  typ : ∀ ad v, w.cell? ad = some v → ∃ v', w'.cell? ad = some v' ∧ (v' = v ∨ ∃ k x y, v = .int k x ∧ v' = .int k y)
  obj : ∀ (b : Nat) (o : Obj), w.heap[b]? = some o → (∀ C T fr, o ≠ Obj.cells C T fr) → w'.heap[b]? = some o

theorem Jw.refl (m : Nat) (w : World) : Jw m w w := ⟨Below.refl _ _, CF.refl _, fun _ _ => rfl, fun _ v h => ⟨v, h, .inl rfl⟩, fun _ _ h _ => h⟩
theorem Jw.trans {m : Nat} {w w1 w2 : World} (h : Jw m w w1) (k : Jw m w1 w2) : Jw m w w2 := by
  refine ⟨h.below.trans k.below, h.cf.trans k.cf, fun b hb => (k.old b hb).trans (h.old b hb), fun ad v hv => ?_, fun b o hb ho => k.obj b o (h.obj b o hb ho) ho⟩
  obtain ⟨v1, h1, h2⟩ := h.typ ad v hv
  obtain ⟨v2, h3, h4⟩ := k.typ ad v1 h1
  refine ⟨v2, h3, ?_⟩
  rcases h2 with rfl | ⟨kk, x, y, rfl, rfl⟩
  · exact h4
  · rcases h4 with rfl | ⟨k2, x2, y2, e1, rfl⟩
    · exact .inr ⟨kk, x, y, rfl, rfl⟩
    · cases e1; exact .inr ⟨kk, x, y2, rfl, rfl⟩
theorem Jw.drawn (m : Nat) (w : World) : Jw m w { w with drawn := w.drawn + 1 } := ⟨⟨rfl, rfl, rfl, Nat.le_refl _, fun _ _ => rfl⟩, fun b C T fr h => .inr ⟨C, T, h⟩, fun _ _ => rfl, fun _ v h => ⟨v, h, .inl rfl⟩, fun _ _ h _ => h⟩
theorem Jw.nf {m : Nat} {w w' : World} (h : Jw m w w') (k : NF m w) : NF m w' := k.step h.cf h.below.size

theorem cell_some {w : World} {ad : Addr} {v : Value} (h : w.cell? ad = some v) : ∃ C T fr, w.heap[ad.block]? = some (.cells C T fr) ∧ ad.spot = none ∧ C[ad.off]? = some v := by
  unfold World.cell? at h
  split at h
  · rename_i C T fr hb
    split at h
    · cases h
    · rename_i hs
      exact ⟨C, T, fr, hb, by simpa using hs, h⟩
  · cases h

theorem cell_of {w : World} {ad : Addr} {v : Value} {C : Array Value} {T : TypeId} {fr : Nat × Nat} (hb : w.heap[ad.block]? = some (.cells C T fr)) (hs : ad.spot = none) (hv : C[ad.off]? = some v) : w.cell? ad = some v := by
  unfold World.cell?
  rw [hb]
  simp [hs, hv]

theorem Jw.same {m : Nat} {w w' : World} (h : Jw m w w') {ad : Addr} {v : Value} (hv : w.cell? ad = some v) (hn : ∀ k x, v ≠ .int k x) : w'.cell? ad = some v := by
  obtain ⟨v', h1, h2⟩ := h.typ ad v hv
  rcases h2 with rfl | ⟨k, x, y, e, _⟩
  · exact h1
  · exact absurd e (hn k x)
theorem Jw.int {m : Nat} {w w' : World} (h : Jw m w w') {ad : Addr} {k : IntKind} {x : Int} (hv : w.cell? ad = some (.int k x)) : ∃ y, w'.cell? ad = some (.int k y) := by
  obtain ⟨v', h1, h2⟩ := h.typ ad _ hv
  rcases h2 with rfl | ⟨k', x', y, e, rfl⟩
  · exact ⟨x, h1⟩
  · cases e; exact ⟨y, h1⟩

section
variable {P : Program} {Z : Zeros} {N m : Nat} {e : JE} {w : World} {o : Oper} {r : List Oper}

theorem jo_step {v : Value} {w' : World} {K : JE → World → Prop} (h : JRun P o e w v w') (k : jops P r (putJ e o.dst v) w' K) : jops P (o :: r) e w K := ⟨v, w', h, k⟩
theorem jo_nil {K : JE → World → Prop} (k : K e w) : jops P [] e w K := k
theorem jq_step {v : Value} {K : JE → Prop} (h : JRun P o e w v w) (k : jqs P r (putJ e o.dst v) w K) : jqs P (o :: r) e w K := ⟨v, h, k⟩
theorem jq_nil {K : JE → Prop} (k : K e) : jqs P [] e w K := k

def spl : List Oper → Option (List Oper × Oper)
  | [] => none
  | [o] => some ([], o)
  | o :: r => (spl r).map fun p => (o :: p.1, p.2)
theorem spl_spec : ∀ {L l : List Oper} {o1 : Oper}, spl L = some (l, o1) → L = l ++ [o1]
  | [], _, _, h => by simp [spl] at h
  | [o], _, _, h => by simp only [spl, Option.some.injEq, Prod.mk.injEq] at h; obtain ⟨rfl, rfl⟩ := h; rfl
  | o :: o2 :: r, l, o1, h => by
    simp only [spl, Option.map_eq_some_iff, Prod.mk.injEq] at h
    obtain ⟨⟨l', o'⟩, h1, rfl, rfl⟩ := h
    rw [spl_spec h1]; rfl

theorem JW.region_d (hm : P.follows .mixedOrders = true) {id : Nat} {L l : List Oper} {o1 : Oper} {Q : Exit → JE → World → Prop} (hs : spl L = some (l, o1)) (hd : dstOk N L = true) (hok : okJ L = true)
    (h : jqs P l e { w with drawn := w.drawn + 1 } fun e' => jops P [o1] e' { w with drawn := w.drawn + 1 } (Q .normal)) : JW P N (.region id L.toArray true) e w Q := by
  cases spl_spec hs
  exact JW.region_draw hm hd hok h

theorem run_val {ρ : Operand → Value} {v : Value} {w' : World} (h : (execOp ρ o).run P w = .ok (.value v) w') : (execOp ρ o).run P w = .ok (.value v) w' ∨ ((execOp ρ o).run P w = .ok .skip w' ∧ v = undef) := .inl h

theorem j_move {x : Operand} {v : Value} (ho : o.op = .move x ∨ o.op = .assign x) (hg : o.guard = none) (hx : evj e x = some v) : JRun P o e w v w := by
  refine ⟨hg, fun c h => (by rcases ho with ho | ho <;> rw [ho] at h <;> cases h), fun ρ hρ => .inl ?_⟩
  rcases ho with ho | ho <;> simp [execOp, ho, hρ x v hx (by simp [ho, Op.operands])]

theorem j_len {args : Array Operand} {ts : Array TypeId} {x : Operand} {t : TypeId} {a : Option Addr} {n c : Nat} (ho : o.op = .call ⟨.builtin .len, args, ts⟩) (h1 : args.toList = [x]) (h2 : ts.toList = [t]) (hg : o.guard = none) (hp : (pelem P t).isSome = true) (hx : evj e x = some (.slice a n c)) : JRun P o e w (.int .i64 n) w := by
  refine ⟨hg, fun c h => (by rw [ho] at h; cases h), fun ρ hρ => .inl ?_⟩
  have hr := hρ x _ hx (by simp [ho, Op.operands, Call.operands, toList1 h1])
  have hu : ∃ et, P.underlying t = some (.slice et) := by
    unfold pelem at hp
    split at hp <;> simp_all
  obtain ⟨et, hu⟩ := hu
  simp [execOp, ho, toList1 h1, toList1 h2, resolve, invoke, builtin, hr, Builtin.len_, Sem.run_bind, run_underlying hu, goInt]

theorem j_bin {op : BinOp} {t t' : TypeId} {x y : Operand} {k : IntKind} {a b : Int} {z : Value} (ho : o.op = .binOp op t x y t') (hg : o.guard = none) (hx : evj e x = some (.int k a)) (hy : evj e y = some (.int k b))
    (hz : ∀ w : World, (binOp op t (.int k a) (.int k b)).run P w = .ok z w) : JRun P o e w z w := by
  refine ⟨hg, fun c h => (by rw [ho] at h; cases h), fun ρ hρ => .inl ?_⟩
  have h1 := hρ x _ hx (by simp [ho, Op.operands])
  have h2 := hρ y _ hy (by simp [ho, Op.operands])
  have h3 := eqGuard_int (P := P) (w := w) (op := op) (t := t) (x := x) (y := y) (u := .int k a) (v := .int k b) (.inl ⟨_, _, rfl⟩)
  simp [execOp, ho, h1, h2, Sem.run_bind, h3, hz w]

theorem j_lt {t t' : TypeId} {x y : Operand} {k : IntKind} {a b : Int} (ho : o.op = .binOp .lss t x y t') (hg : o.guard = none) (hx : evj e x = some (.int k a)) (hy : evj e y = some (.int k b)) : JRun P o e w (.bool (decide (a < b))) w :=
  j_bin ho hg hx hy fun w => by simp [binOp, Op.intCmp]
theorem j_add {t t' : TypeId} {x y : Operand} {k : IntKind} {a b : Int} (ho : o.op = .binOp .add t x y t') (hg : o.guard = none) (hx : evj e x = some (.int k a)) (hy : evj e y = some (.int k b)) : JRun P o e w (.int k (k.wrap (a + b))) w :=
  j_bin ho hg hx hy fun w => by simp [binOp, Op.intArith]
theorem j_xor {t t' : TypeId} {x y : Operand} {k : IntKind} {a b : Int} (ho : o.op = .binOp .xor t x y t') (hg : o.guard = none) (hx : evj e x = some (.int k a)) (hy : evj e y = some (.int k b)) : JRun P o e w (.int k (ibits .xor k a b)) w :=
  j_bin ho hg hx hy fun w => by simp only [binOp]; rw [if_neg (by simp)]; rfl

theorem j_field {s : TypeId} {x : Operand} {f fo : Nat} {ft : TypeId} {n : Nat} {ad : Addr} (ho : o.op = .fieldAddr s x f) (hg : o.guard = none) (hf : pfld P s f = some (fo, ft)) (hp : psz P ft = some n) (hn : n ≠ 0) (hx : evj e x = some (.pointer (some ad))) :
    JRun P o e w (.pointer (some (ad.add fo))) w := by
  refine ⟨hg, fun c h => (by rw [ho] at h; cases h), fun ρ hρ => .inl ?_⟩
  simp only [execOp, ho, hρ x _ hx (by simp [ho, Op.operands])]
  exact run_value (run_fieldAt hf hp hn ad)

theorem j_index {t et : TypeId} {x ix : Operand} {sz n c : Nat} {k : IntKind} {i : Nat} {ad : Addr} (ho : o.op = .indexAddr t x ix) (hg : o.guard = none) (h1 : pelem P t = some et) (h2 : psz P et = some sz) (hx : evj e x = some (.slice (some ad) n c)) (hi : evj e ix = some (.int k i)) (hlt : i < n) :
    JRun P o e w (.pointer (some (ad.add (i * sz)))) w := by
  refine ⟨hg, fun c h => (by rw [ho] at h; cases h), fun ρ hρ => .inl ?_⟩
  simp only [execOp, ho, hρ x _ hx (by simp [ho, Op.operands]), hρ ix _ hi (by simp [ho, Op.operands])]
  have := run_indexAt_slice (P := P) (w := w) (len := n) (cp := c) (k := k) (i := (i : Int)) h1 h2 (ad := ad) (by omega) (by omega)
  simp only [Int.toNat_natCast] at this
  exact run_value this

theorem At.one {w : World} {ad : Addr} {v : Value} (h : w.cell? ad = some v) : At w ad [v] := by
  intro j u hj
  cases j with
  | zero => simp at hj; subst hj; rw [show ad.add 0 = ad from by simp [Addr.add]]; exact h
  | succ j => simp at hj

theorem j_load {t : TypeId} {x : Operand} {ad : Addr} {v : Value} (ho : o.op = .load t x) (hg : o.guard = none) (hp : pty P t = some (false, 1)) (hx : evj e x = some (.pointer (some ad))) (hv : w.cell? ad = some v) : JRun P o e w v w := by
  refine ⟨hg, fun c h => (by rw [ho] at h; cases h), fun ρ hρ => .inl ?_⟩
  simp only [execOp, ho, hρ x _ hx (by simp [ho, Op.operands])]
  exact run_value (run_loadAt' (us := [v]) hp (At.one hv) rfl (fun _ => rfl))

theorem j_loads {t : TypeId} {x : Operand} {ad : Addr} {us : List Value} {n : Nat} (ho : o.op = .load t x) (hg : o.guard = none) (hp : pty P t = some (true, n)) (hx : evj e x = some (.pointer (some ad))) (hv : At w ad us) (hl : us.length = n) : JRun P o e w (.agg us.toArray) w := by
  refine ⟨hg, fun c h => (by rw [ho] at h; cases h), fun ρ hρ => .inl ?_⟩
  simp only [execOp, ho, hρ x _ hx (by simp [ho, Op.operands])]
  have := run_loadAt' (P := P) (us := us) hp hv hl (fun h => by cases h)
  exact run_value this

/-- a number over a number of its kind -/
theorem j_store {t : TypeId} {x y : Operand} {ad : Addr} {k : IntKind} {a b : Int} (ho : o.op = .store t x y) (hg : o.guard = none) (hp : psz P t = some 1) (hx : evj e x = some (.pointer (some ad))) (hy : evj e y = some (.int k b))
    (hv : w.cell? ad = some (.int k a)) (hnf : NF m w) (hm : m ≤ ad.block) : ∃ w', JRun P o e w undef w' ∧ Jw m w w' := by
  obtain ⟨C, T, fr, hb, hs, hc⟩ := cell_some hv
  obtain ⟨blk, off, spot⟩ := ad
  dsimp only at hb hs hc hm
  subst hs
  cases hnf.2 blk C T fr hm hb
  have hlt : off < C.size := (Array.getElem?_eq_some_iff.1 hc).1
  have hrun := run_storeVar' (P := P) (w := w) hp hb (v := .int k b) (off := off) rfl (by omega) (by simp [Value.cells, Value.oneCell'])
  refine ⟨w.setRow blk (C.toList.take off ++ (Value.int k b).cells.toList ++ C.toList.drop (off + 1)).toArray, ⟨hg, fun c h => (by rw [ho] at h; cases h), fun ρ hρ => .inr ⟨?_, rfl⟩⟩, ?_⟩
  · simp only [execOp, ho, hρ x _ hx (by simp [ho, Op.operands]), hρ y _ hy (by simp [ho, Op.operands])]
    have : (Instr.storeAt t (.pointer (some ⟨blk, off, none⟩)) (.int k b)).run P w = .ok () (w.setRow blk (C.toList.take off ++ (Value.int k b).cells.toList ++ C.toList.drop (off + 1)).toArray) := by
      simp only [Instr.storeAt, Instr.sureAddr, Sem.run_bind, Sem.run_pure, Result.andThen_ok]
      exact hrun
    simp [Sem.run_bind, this]
  · refine ⟨⟨rfl, rfl, rfl, by simp [World.setRow], fun k hk => absurd hk (by omega)⟩, CF.setRow hb _, fun b' hb' => setRow_other w blk b' _ (by omega), fun ad v hv' => ?_, fun b' o' hb' ho' => (by rw [setRow_other w blk b' _ (fun e1 => by rw [e1, hb] at hb'; cases hb'; exact ho' _ _ _ rfl)]; exact hb')⟩
    by_cases e1 : ad.block = blk
    · obtain ⟨C', T', fr', hb', hs', hc'⟩ := cell_some hv'
      rw [e1, hb] at hb'
      cases hb'
      have hnew := setRow_heap w blk C (C.toList.take off ++ (Value.int k b).cells.toList ++ C.toList.drop (off + 1)).toArray T (0, 0) hb
      by_cases e2 : ad.off = off
      · refine ⟨.int k b, cell_of (by rw [e1]; exact hnew) hs' ?_, .inr ⟨k, a, b, ?_, rfl⟩⟩
        · rw [e2]
          have hl : (C.toList.take off).length = off := by simp; omega
          simp only [List.getElem?_toArray, List.append_assoc]
          rw [List.getElem?_append_right (by omega), hl]
          simp [Value.cells]
        · rw [e2, hc] at hc'; cases hc'; rfl
      · refine ⟨v, cell_of (by rw [e1]; exact hnew) hs' ?_, .inl rfl⟩
        have hl : (C.toList.take off).length = off := by simp; omega
        simp only [List.getElem?_toArray, List.append_assoc]
        have hc2 : C.toList[ad.off]? = some v := by simpa using hc'
        rcases Nat.lt_or_ge ad.off off with h1 | h1
        · rw [List.getElem?_append_left (by omega), List.getElem?_take, if_pos h1]; exact hc2
        · rw [List.getElem?_append_right (by omega), hl]
          obtain ⟨d, hd⟩ : ∃ d, ad.off - off = d + 1 := ⟨ad.off - off - 1, by omega⟩
          rw [hd]
          simp only [Value.cells, List.singleton_append, List.getElem?_cons_succ, List.getElem?_drop]
          rw [show off + 1 + d = ad.off from by omega]; exact hc2
    · exact ⟨v, by rw [← hv']; exact World.cell?_of_block (setRow_other w blk ad.block _ e1), .inl rfl⟩

theorem jo_store {t : TypeId} {x y : Operand} {ad : Addr} {k : IntKind} {a b : Int} {K : JE → World → Prop} (ho : o.op = .store t x y) (hg : o.guard = none) (hp : psz P t = some 1) (hx : evj e x = some (.pointer (some ad))) (hy : evj e y = some (.int k b))
    (hv : w.cell? ad = some (.int k a)) (hnf : NF m w) (hm : m ≤ ad.block) (hk : ∀ w', Jw m w w' → jops P r (putJ e o.dst undef) w' K) : jops P (o :: r) e w K := by
  obtain ⟨w', h1, h2⟩ := j_store (m := m) ho hg hp hx hy hv hnf hm
  exact jo_step h1 (hk w' h2)

/-- a new variable, and its first value -/
theorem j_var {o2 : Oper} {t : TypeId} {x : Operand} {d : Nat} {us : List Value} {n : Nat} (hz : ZOk P Z) (ho : o.op = .alloc t) (hg : o.guard = none) (hne : (Z t).isEmpty = false) (hd : o.dst = some d) (ho2 : o2.op = .store t (.tmp d) x) (hg2 : o2.guard = none) (hp : psz P t = some n)
    (hx : evj e x = some (.agg us.toArray)) (hxd : x ≠ .tmp d) (hl : us.length = n) (h1 : ∀ u ∈ us, u.oneCell' = true) (hnf : NF m w) {K : JE → World → Prop}
    (hk : ∀ w', Jw m w w' → At w' ⟨w.heap.size, 0, none⟩ us → jops P r (putJ (putJ e (some d) (.pointer (some ⟨w.heap.size, 0, none⟩))) o2.dst undef) w' K) : jops P (o :: o2 :: r) e w K := by
  obtain ⟨i, z, hi, hzz, hsz, _, _⟩ := hz t (by intro e; simp [e] at hne)
  have hal : JRun P o e w (.pointer (some ⟨w.heap.size, 0, none⟩)) (w.alloc (.cells z.cells t)) := by
    refine ⟨hg, fun c h => (by rw [ho] at h; cases h), fun ρ hρ => .inl ?_⟩
    simp only [execOp, ho]
    refine run_value ?_
    simp [Instr.alloc, zeroValue, typeInfo, hi, hzz, newVar, run_newRow]
  refine jo_step hal ?_
  rw [hd]
  have hpush : (w.alloc (.cells z.cells t)).heap = w.heap.push (.cells z.cells t (0, 0)) := rfl
  have hb : (w.alloc (.cells z.cells t)).heap[w.heap.size]? = some (.cells z.cells t (0, 0)) := by rw [hpush]; simp
  have hin : i.size = n := by unfold psz at hp; rw [hi] at hp; simpa using hp
  have hrun := run_storeVar' (P := P) (w := w.alloc (.cells z.cells t)) hp hb (v := .agg us.toArray) (off := 0) (by simpa [Value.cells] using hl) (by omega) (by simpa [Value.cells] using h1)
  have hnew := setRow_heap (w.alloc (.cells z.cells t)) w.heap.size z.cells (z.cells.toList.take 0 ++ (Value.agg us.toArray).cells.toList ++ z.cells.toList.drop (0 + n)).toArray t (0, 0) hb
  have hC : (z.cells.toList.take 0 ++ (Value.agg us.toArray).cells.toList ++ z.cells.toList.drop (0 + n)) = us := by
    have : z.cells.toList.drop (0 + n) = [] := List.drop_eq_nil_of_le (by simp; omega)
    rw [this]; simp [Value.cells]
  rw [hC] at hrun hnew
  have hoth : ∀ b, b ≠ w.heap.size → ((w.alloc (.cells z.cells t)).setRow w.heap.size us.toArray).heap[b]? = w.heap[b]? := by
    intro b hb'
    rw [setRow_other _ w.heap.size b _ hb']
    rw [hpush]
    rcases Nat.lt_or_ge b w.heap.size with h | h
    · rw [Array.getElem?_push_lt h]; simp [h]
    · rw [Array.getElem?_eq_none (by simp; omega), Array.getElem?_eq_none (by omega)]
  refine jo_step (v := undef) (w' := (w.alloc (.cells z.cells t)).setRow w.heap.size us.toArray) ⟨hg2, fun c h => (by rw [ho2] at h; cases h), fun ρ hρ => .inr ⟨?_, rfl⟩⟩ (hk _ ?_ ?_)
  · have e1 : ρ (.tmp d) = .pointer (some ⟨w.heap.size, 0, none⟩) := hρ _ _ (by simp [evj, putJ, lk]) (by simp [ho2, Op.operands])
    have e2 : ρ x = .agg us.toArray := by
      refine hρ x _ ?_ (by simp [ho2, Op.operands])
      rw [← hx]
      cases x with
      | tmp t' => simp only [evj, putJ, lk]; rw [if_neg (fun e1 => hxd (by rw [e1]))]
      | _ => rfl
    simp only [execOp, ho2, e1, e2]
    have : (Instr.storeAt t (.pointer (some ⟨w.heap.size, 0, none⟩)) (.agg us.toArray)).run P (w.alloc (.cells z.cells t)) = .ok () ((w.alloc (.cells z.cells t)).setRow w.heap.size us.toArray) := by
      simp only [Instr.storeAt, Instr.sureAddr, Sem.run_bind, Sem.run_pure, Result.andThen_ok]
      exact hrun
    simp [Sem.run_bind, this]
  · refine ⟨⟨rfl, rfl, rfl, by simp [World.setRow, hpush], fun k hk => absurd hk (by omega)⟩, fun b C T fr h => ?_, fun b hb' => hoth b (by have := hnf.1; omega), fun ad v hv => ⟨v, ?_, .inl rfl⟩, fun b o hb' _ => (by rw [hoth b (by have := (Array.getElem?_eq_some_iff.1 hb').1; omega)]; exact hb')⟩
    · by_cases e1 : b = w.heap.size
      · subst e1; rw [hnew] at h; cases h; exact .inl rfl
      · rw [hoth b e1] at h; exact .inr ⟨C, T, h⟩
    · rw [← hv]
      refine World.cell?_of_block (hoth _ fun e1 => ?_)
      obtain ⟨C, T, fr, hb', _⟩ := cell_some hv
      rw [e1, Array.getElem?_eq_none (by omega)] at hb'
      cases hb'
  · have := var_at (off := 0) hnew us.length
    simpa [Addr.add] using this
end
end Go.Abs

namespace Go.Abs
open Go Go.RowKit

/-- the variables that are read alone from here on -/
def leRo (h : Heap) : Heap → Prop
  | [] => True
  | (i, b) :: r => (match b with | .rvar cells => hlook h i = some (.var (cells.map .p)) ∧ (cells.map AV.p).all oneW = true | _ => False) ∧ leRo h r

theorem leRo_spec {h : Heap} : ∀ {ro : Heap}, leRo h ro → ∀ id x, hlook ro id = some x → ∃ cells, x = .rvar cells ∧ hlook h id = some (.var (cells.map .p)) ∧ (cells.map AV.p).all oneW = true
  | [], _, _, _, hx => by simp [hlook] at hx
  | (i, b) :: r, hl, id, x, hx => by
    simp only [leRo] at hl
    simp only [hlook] at hx
    split at hx
    · rename_i e; subst e; cases hx
      cases b <;> first | exact hl.1.elim | skip
      exact ⟨_, rfl, hl.1⟩
    · exact leRo_spec hl.2 id x hx

theorem RAs_unp {I : Nat → Prop} {g : Gh} {w : World} : ∀ {cs : List PV} {vs : List Value}, RAs I g w (cs.map .p) vs → Rs I w cs vs
  | [], _, h => by simpa only [List.map_nil, RAs, Rs] using h
  | c :: cs, vs, h => by
    simp only [List.map_cons, RAs] at h
    simp only [Rs]
    obtain ⟨v1, v2, e, h1, h2⟩ := h
    simp only [RA] at h1
    exact ⟨v1, v2, e, h1, RAs_unp h2⟩

def Gh.inner (g : Gh) (i : Nat) (t : Array Value) (b : Nat) : Gh := { g with frm := fun j => if j = i then (t, 0) else g.frm j, b0 := b }
def innerI (I : Nat → Prop) (g : Gh) (h : Heap) : Nat → Prop := fun b => I b ∨ ∃ id cells, hlook h id = some (.var cells) ∧ b = g.blk id

theorem StOk.inner {I : Nat → Prop} {g : Gh} {w : World} {a : Act} {s : St} (ok : StOk (Dn s) I g w a s) {env2 : List (Nat × AV)} {ro : Heap} (h1 : leE s.env env2) (h2 : leRo s.heap ro)
    (h3 : onE (s.nx + 1) ((s.nx, .frame env2) :: ro) env2) (h4 : onH (s.nx + 1) ((s.nx, .frame env2) :: ro) ro) :
    StOk (Dn ⟨env2, (s.nx, .frame env2) :: ro, s.nx + 1⟩) (innerI I g s.heap) (g.inner s.nx a.tmps w.heap.size) w a ⟨env2, (s.nx, .frame env2) :: ro, s.nx + 1⟩ ∧ ∀ b, ¬ Owned (g.inner s.nx a.tmps w.heap.size) ((s.nx, .frame env2) :: ro) b := by
  have henv : ∀ t, RA (innerI I g s.heap) (g.inner s.nx a.tmps w.heap.size) w (look env2 t) [a.tmps.getD t undef] := by
    intro t
    rcases leE_spec h1 t with h | h
    · rw [h]; exact RA.mono' (g := g.inner s.nx a.tmps w.heap.size) (fun b hb => .inl hb) (RA.cg (g := g) (g' := g.inner s.nx a.tmps w.heap.size) rfl rfl (ok.env t))
    · rw [h]; simp only [RA]; exact ⟨_, rfl⟩
  have hon : ∀ t, (look env2 t).on (Dn ⟨env2, (s.nx, .frame env2) :: ro, s.nx + 1⟩) := fun t => onE_spec (s := ⟨env2, (s.nx, .frame env2) :: ro, s.nx + 1⟩) h3 t
  have hnone : ∀ id x, hlook ((s.nx, .frame env2) :: ro) id = some x → ownB (g.inner s.nx a.tmps w.heap.size) id x = none := by
    intro id x hx
    simp only [hlook] at hx
    split at hx
    · cases hx; rfl
    · obtain ⟨cells, rfl, _⟩ := leRo_spec h2 id x hx; rfl
  refine ⟨⟨henv, hon, ⟨?_, ?_, ?_, NF.start w⟩, ?_⟩, ?_⟩
  · intro id x hx
    simp only [hlook] at hx
    split at hx
    · rename_i e; subst e; cases hx
      intro t
      have : ((g.inner s.nx a.tmps w.heap.size).frm s.nx).1 = a.tmps := by simp [Gh.inner]
      rw [this]; exact henv t
    · obtain ⟨cells, rfl, hv, ho⟩ := leRo_spec h2 id x hx
      obtain ⟨C, T, hC, hr, _⟩ := ok.heap.blk id _ hv
      have hat := var_at (off := 0) hC C.toList.length
      refine ⟨C.toList, ⟨?_, oneCells_of_rep hr ho⟩, Rs.mono (fun _ _ => rfl) (fun b hb => .inl hb) _ _ (RAs_unp hr), .inr ⟨id, _, hv, rfl⟩⟩
      simpa [Addr.add, Gh.inner, List.take_of_length_le] using hat
  · intro id id' x x' k _ hx _ hk
    rw [hnone id x hx] at hk; cases hk
  · intro id x hx
    simp only [hlook] at hx
    split at hx
    · rename_i e; subst e; cases hx
      exact ⟨⟨Nat.lt_succ_self _, fun _ _ _ _ _ _ => Nat.zero_le _⟩, hon⟩
    · rename_i hne
      refine onB_spec (s := ⟨env2, (s.nx, .frame env2) :: ro, s.nx + 1⟩) (onH_spec (s := ⟨env2, (s.nx, .frame env2) :: ro, s.nx + 1⟩) h4 id x hx) ?_
      simp only [hlook, if_neg hne, hx]
  · rintro b (hb | ⟨id, cells, hx, rfl⟩)
    · exact ok.small b hb
    · exact ok.heap.own_lt hx rfl
  · rintro b ⟨id, x, hx, _, hb⟩
    rw [hnone id x hx] at hb; cases hb

section
variable {P : Program} {N n : Nat} {I0 : Nat → Prop} {g0 : Gh} {w0 : World} {dl : List Deferred} {Qm : Exit → Act → World → Prop}

/-- a code on its way to Qm; the start is kept in mind -/
def AWR (P : Program) (N n : Nat) (I0 : Nat → Prop) (g0 : Gh) (w0 : World) (dl : List Deferred) (Qm : Exit → Act → World → Prop) (c : Code) (s : St) : Prop :=
  ∀ (I : Nat → Prop) (g : Gh) (w : World) (a : Act), a.tmps.size = N → DlOk a.defers I (Owned g s.heap) w → DlNew dl w0 a.defers → StOk (Dn s) I g w a s → Fr I0 (fun _ => False) w0 I (Owned g s.heap) w → Gh.kp g0 g → c.wpIn (wideR none) n P Qm a w

theorem AWR.seq_k {x y : Code} {s : St} (h : ∀ K : St → Prop, (∀ s', AWR P N n I0 g0 w0 dl Qm y s' → K s') → AWP P N false x s (thenQ K fun _ _ => False)) : AWR P N n I0 g0 w0 dl Qm (.seq x y) s := by
  intro I g w a hN hd hdn ok fr kp
  refine wpIn_seq (wpIn_mono (h _ (fun _ h => h) none n I g w a (fun _ => rfl) hN hd ok) ?_)
  rintro e a' w' ⟨s', I', g', q, hN', hd', ok', fr', kp'⟩
  cases e with
  | normal => exact q I' g' w' a' hN' hd'.1 (fun r hr => (hd'.2 r hr).elim (hdn r) fun h => .inr (Nat.le_trans fr.below.size h)) ok' (fr.trans fr') (kp.trans kp')
  | _ => exact q.elim

def JWR (P : Program) (N n : Nat) (ds : List Deferred) (Qm : Exit → Act → World → Prop) (c : Code) (e : JE) (w : World) : Prop := ∀ a : Act, a.tmps.size = N → a.defers = ds → JEnv a e → c.wpIn (wideR none) n P Qm a w

theorem JWR.seq {ds : List Deferred} {x y : Code} {e : JE} {w : World} (h : JW P N x e w (thenJ (fun e' w' => JWR P N n ds Qm y e' w') fun _ _ _ => False)) : JWR P N n ds Qm (.seq x y) e w := by
  intro a hN hd he
  refine wpIn_seq (wpIn_mono (h n a hN he) ?_)
  rintro e a' w' ⟨hN', hd', e', he', q⟩
  cases e with
  | normal => exact q a' hN' (hd'.trans hd) he'
  | _ => exact q.elim

/-- a temporary that stayed -/
theorem pin {I : Nat → Prop} {g g2 : Gh} {w : World} {a a0 : Act} {s : St} {i0 t id : Nat} {env2 : List (Nat × AV)} (ok : StOk (Dn s) I g w a s) (hf : hlook s.heap i0 = some (.frame env2)) (h1 : look env2 t = .ptr id 0) (h2 : look s.env t = .ptr id 0)
    (kp : Gh.kp g2 g) (hi : g2.frm i0 = (a0.tmps, 0)) : a.tmps.getD t undef = a0.tmps.getD t undef := by
  have r1 := ok.heap.blk i0 _ hf t
  have r2 := ok.env t
  rw [kp.1, hi, h1] at r1
  rw [h2] at r2
  simp only [RA, List.cons.injEq, and_true] at r1 r2
  rw [r1, r2]

/-- JUNK: a code that turns new memory alone, then the rest: what was of old is as it was -/
theorem AWP.junk {c rest : Code} {s : St} {Q : Exit → St → Prop} (env2 : List (Nat × AV)) (ro : Heap) (so : St) (hso : so.heap = s.heap ∧ so.nx = s.nx) (h1 : leE s.env env2) (h2 : leRo s.heap ro)
    (h3 : onE (s.nx + 1) ((s.nx, .frame env2) :: ro) env2) (h4 : onH (s.nx + 1) ((s.nx, .frame env2) :: ro) ro) (h5 : leE s.env so.env)
    (hrest : AWP P N false rest so Q)
    (main : ∀ (n : Nat) (I0 : Nat → Prop) (g0 : Gh) (w0 : World) (a0 : Act) (dl : List Deferred) (Qm : Exit → Act → World → Prop), g0.b0 = w0.heap.size → g0.frm s.nx = (a0.tmps, 0) → (∀ b, I0 b → b < w0.heap.size) →
      (∀ (a' : Act) (w' : World) (w1 : World) (ds : List Deferred) (I1 O1 : Nat → Prop), a'.tmps.size = N → a'.defers = ds → DlOk ds I1 O1 w1 → DlNew dl w0 ds → Fr I0 (fun _ => False) w0 I1 O1 w1 → Jw w0.heap.size w1 w' → (∀ t, look so.env t ≠ .undef → a'.tmps.getD t undef = a0.tmps.getD t undef) → rest.wpIn (wideR none) n P Qm a' w') →
      AWR P N n I0 g0 w0 dl Qm c ⟨env2, (s.nx, .frame env2) :: ro, s.nx + 1⟩) : AWP P N false c s Q := by
  intro r n I g w a hr hN hdl ok
  cases hr rfl
  obtain ⟨ok2, hno⟩ := ok.inner h1 h2 h3 h4
  have hO : Owned (g.inner s.nx a.tmps w.heap.size) ((s.nx, .frame env2) :: ro) = fun _ => False := by funext b; exact propext ⟨fun h => (hno b h).elim, fun h => h.elim⟩
  have hdl2 : DlOk a.defers (innerI I g s.heap) (Owned (g.inner s.nx a.tmps w.heap.size) ((s.nx, .frame env2) :: ro)) w := by
    refine ⟨hdl.nd, fun d hd => ?_⟩
    obtain ⟨r, e, hr, hi, ho⟩ := hdl.mark d hd
    refine ⟨r, e, hr, ?_, hno r⟩
    rintro (h | ⟨id, cells, hx, h⟩)
    · exact hi h
    · exact ho ⟨id, _, hx, rfl, by rw [h]; rfl⟩
  refine main n (innerI I g s.heap) (g.inner s.nx a.tmps w.heap.size) w a a.defers _ rfl (by simp [Gh.inner]) ok2.small ?_ _ _ w a hN hdl2 (DlNew.refl _ _) ok2 (by rw [hO]; exact Fr.refl _ _ _) (Gh.kp.refl _)
  intro a' w' w1 ds I1 O1 hN' hds hd1 hdn fr jw hp
  have hold : ∀ b, b < w.heap.size → w'.heap[b]? = w.heap[b]? := fun b hb => (jw.old b hb).trans (fr.same b hb (fun h => h))
  have hcf : CF w w' := fr.cf.trans jw.cf
  have hbel : Below 0 w w' := fr.below.trans jw.below
  have hk := ok.heap.world (w' := w') (fun b hb => hold b (ok.small b hb)) (fun id x b hx hb => hold b (ok.heap.own_lt hx hb)) hbel.size hcf
  have hDn : Dn so = Dn s := by unfold Dn; rw [hso.1, hso.2]
  have oko : StOk (Dn so) I g w' a' so := by
    rw [hDn]
    refine ⟨fun t => ?_, fun t => ?_, by rw [hso.1]; exact hk, fun b hb => Nat.lt_of_lt_of_le (ok.small b hb) hbel.size⟩
    · rcases leE_spec h5 t with h | h
      · by_cases hu : look so.env t = .undef
        · rw [hu]; simp only [RA]; exact ⟨_, rfl⟩
        · rw [hp t hu, h]
          exact RA.mono (fun b hb => hold b (ok.small b hb)) (fun _ h => h) (Gh.same.refl _ _) _ _ (ok.on t) (ok.env t)
      · rw [h]; simp only [RA]; exact ⟨_, rfl⟩
    · rcases leE_spec h5 t with h | h
      · rw [h]; exact ok.on t
      · rw [h]; simp only [AV.on]
  have hO2 : Owned g so.heap = Owned g s.heap := by rw [hso.1]
  have frf : Fr I (Owned g s.heap) w I (Owned g so.heap) w' := ⟨hbel, fun b hb _ => hold b hb, fun b hb => .inl (by rw [hO2] at hb; exact hb), fun b hb => .inl hb, fun b hb => hb, hcf⟩
  have hdnew : DlNew a.defers w a'.defers := by rw [hds]; exact hdn
  have hdo : DlOk a'.defers I (Owned g so.heap) w' := by
    rw [hds]
    refine ⟨hd1.nd, fun d hd => ?_⟩
    obtain ⟨r, e, hr, _, _⟩ := hd1.mark d hd
    refine ⟨r, e, jw.obj r _ hr (fun _ _ _ h => by cases h), ?_⟩
    subst e
    rcases hdn r hd with h | h
    · obtain ⟨r', e', hr', hi', ho'⟩ := hdl.mark _ h
      cases e'
      rw [hO2]
      exact ⟨hi', ho'⟩
    · refine ⟨fun hi => by have := ok.small r hi; omega, ?_⟩
      rintro ⟨id, x, hx, _, hb⟩
      rw [hso.1] at hx
      have := ok.heap.own_lt hx hb
      omega
  exact wpIn_mono (hrest none n I g w' a' (fun _ => rfl) hN' hdo oko) fun e a2 w2 hp => Post.trans frf (Gh.kp.refl _) hdnew hp

theorem AWR.seqL {x y : Code} {s : St} (h : AWR P N n I0 g0 w0 dl (Exit.then (fun a w => y.wpIn (wideR none) n P Qm a w) Qm) x s) : AWR P N n I0 g0 w0 dl Qm (.seq x y) s :=
  fun I g w a hN hd hdn ok fr kp => wpIn_seq (h I g w a hN hd hdn ok fr kp)

theorem JW.seqQ {x y : Code} {e : JE} {w : World} {Q : Exit → JE → World → Prop} (h : ∀ K : JE → World → Prop, (∀ e' w', JW P N y e' w' Q → K e' w') → JW P N x e w (thenJ K Q)) : JW P N (.seq x y) e w Q := JW.seq (h _ fun _ _ h => h)
end
end Go.Abs

namespace Go.Abs
open Go Go.RowKit

section
variable {H : Type} {enc : TypeId × Value → H} {P : Program} {w : World} {base : Nat} {spare : Nat → Bool} {held : Bool}

/-- the blocks that are there -/
def Ih (w : World) : Nat → Prop := fun b => b < w.heap.size

theorem At_of_cells {a : Addr} {n : Nat} {cs : List Value} (h : w.cells? base a n = some cs) : cs.length = n ∧ At w a cs := by
  obtain ⟨_, hl, hc⟩ := World.cells?_some h
  refine ⟨hl, fun j v hj => ?_⟩
  have hlt := (List.getElem?_eq_some_iff.1 hj).1
  rw [hc j (by omega)]; exact hj

theorem open_slice' {α : Type} {t e : TypeId} {sz fuel : Nat} {cs : List Value} {x : DataW H × List MemPlace} (ht : P.underlying t = some (.slice e)) (hc : P.cellsOf e = sz) (hpos : 0 < sz) (f : α → List PV)
    (he : ∀ n cs x, DataW.trod enc P w base spare held n e cs = some x → ∃ y : α, Rs (Ih w) w (f y) cs ∧ ∀ v ∈ cs, v.oneCell' = true)
    (h : DataW.trod enc P w base spare held fuel t cs = some x) : ∃ l : List α, R (Ih w) w (.lst sz (l.map f)) cs := by
  rcases DataW.trod_slice ht h with ⟨rfl, _⟩ | ⟨a, len, cap, elems, rest, n, _, rfl, rfl, hb, hl, hm, hlen, hel, hsp, hns⟩
  · exact ⟨[], by simp only [R]; exact ⟨none, 0, rfl, by simp, by simp only [List.map_nil, RLL]⟩⟩
  · have each : ∀ i, i < len → ∃ y : α, ∃ us, us.length = sz ∧ At1 w (a.add (i * sz)) us ∧ Rs (Ih w) w (f y) us ∧ a.block < w.heap.size := by
      intro i hi
      have h1 := hel i hi
      have hx : elems[i]? = some elems[i] := by simp [show i < elems.length by omega]
      rw [hx, hc, Option.bind_eq_some_iff] at h1
      obtain ⟨us, hus, h2⟩ := h1
      obtain ⟨y, hy, h3⟩ := he _ _ _ h2
      obtain ⟨h4, h5⟩ := At_of_cells hus
      have h6 := World.cells?_block hus hpos
      rw [add_block] at h6
      exact ⟨y, us, h4, ⟨h5, h3⟩, hy, h6⟩
    have all : ∀ k, k ≤ len → ∃ l : List α, l.length = k ∧ ∀ i y, l[i]? = some y → ∃ us, us.length = sz ∧ At1 w (a.add (i * sz)) us ∧ Rs (Ih w) w (f y) us ∧ a.block < w.heap.size := by
      intro k
      induction k with
      | zero => intro _; exact ⟨[], rfl, fun i y h => by simp at h⟩
      | succ k ih =>
        intro hk
        obtain ⟨l, h1, h2⟩ := ih (by omega)
        obtain ⟨y, hy⟩ := each k (by omega)
        refine ⟨l ++ [y], by simp [h1], fun i z hz => ?_⟩
        rcases Nat.lt_trichotomy i k with h | h | h
        · rw [List.getElem?_append_left (by omega)] at hz; exact h2 i z hz
        · subst h
          rw [List.getElem?_append_right (by omega), h1, Nat.sub_self] at hz
          simp at hz; subst hz; exact hy
        · have := (List.getElem?_eq_some_iff.1 hz).1
          simp at this; omega
    obtain ⟨l, h1, h2⟩ := all len (Nat.le_refl _)
    refine ⟨l, ?_⟩
    simp only [R]
    refine ⟨some a, cap, by simp [h1], by simp [h1]; omega, RLL.of_get fun i e hi => ?_⟩
    rw [List.getElem?_map, Option.map_eq_some_iff] at hi
    obtain ⟨y, hy, rfl⟩ := hi
    obtain ⟨us, h3, h4, h5, h6⟩ := h2 i y hy
    rw [Nat.zero_add]
    exact ⟨a, us, rfl, h6, h3, h4, h5⟩

theorem open_agg {α : Type} {t : TypeId} {fs : Array Field} {v : Value} {d : DataW H} {p : List MemPlace} {r : Reach} {b0 : Nat} (ht : P.underlying t = some (.struct fs)) (hv : Value.okWide P w r b0 t v) (h : DataW.Trod enc P w base spare held t v d p) (f : α → List PV)
    (hk : ∀ n cs x, DataW.trod enc P w base spare held n t cs = some x → ∃ y, Rs (Ih w) w (f y) cs ∧ ∀ v ∈ cs, v.oneCell' = true) : ∃ y, R (Ih w) w (.agg (f y)) [v] := by
  unfold Value.okWide at hv
  rw [ht] at hv
  obtain ⟨cs, rfl, _⟩ := hv
  obtain ⟨fuel, hf⟩ := h
  obtain ⟨y, hr, _⟩ := hk _ _ _ hf
  exact ⟨y, by simp only [R]; exact ⟨cs, rfl, by simpa [Value.cells] using hr⟩⟩

theorem open_u8' {n : Nat} {t : TypeId} {cs : List Value} {x : DataW H × List MemPlace} (ht : P.underlying t = some (.int .u8)) (h : DataW.trod enc P w base spare held n t cs = some x) : ∃ y : UInt8, cs = [.int .u8 y.toNat] := by
  obtain ⟨m, rfl, _, hw⟩ := DataW.trod_int ht h
  simp only [Lit.wf, Bool.and_eq_true, decide_eq_true_eq] at hw
  have e1 : IntKind.u8.min = 0 := by decide
  have e2 : IntKind.u8.max = 255 := by decide
  rw [e1, e2] at hw
  refine ⟨UInt8.ofNat m.toNat, ?_⟩
  have : (UInt8.ofNat m.toNat).toNat = m.toNat := by
    rw [UInt8.toNat_ofNat']; omega
  rw [this, Int.toNat_of_nonneg hw.1]
end
end Go.Abs
