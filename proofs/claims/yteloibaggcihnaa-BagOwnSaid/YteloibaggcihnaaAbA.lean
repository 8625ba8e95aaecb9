/-
  The abstract machine: values without addresses, states, memory.
-/
import Derived.WalkKit
import Derived.CallsIn
import Derived.Deep.MidRow
import Derived.Orders
set_option linter.all false
set_option linter.unusedVariables false
set_option linter.unusedSimpArgs false

namespace Go.Abs
open Go Go.RowKit

/-- values that hold no address: what a call takes and hands back -/
inductive PV where
  | bool (b : Bool)
  | int (k : IntKind) (n : Int)
  | str (s : ByteArray)
  | lst (sz : Nat) (xs : List (List PV))
  | nil
  | vptr (cells : List PV)
  | nilptr
  | nilf
  | niface
  | iface (t : Nat) (v : PV)
  | arr (n : Nat) (xs : List PV)
  | agg (cells : List PV)
  | tup (vs : List PV)
  deriving Inhabited

/-- what lies from an address on -/
def At (w : World) (ad : Addr) (vs : List Value) : Prop := ∀ j v, vs[j]? = some v → w.cell? (ad.add j) = some v

/-- ... each of one cell -/
def At1 (w : World) (ad : Addr) (vs : List Value) : Prop := At w ad vs ∧ ∀ v ∈ vs, v.oneCell' = true

mutual
/-- the cells 'vs' of the world w read as the value; all memory that is read lies in blocks of I -/
def R (I : Nat → Prop) (w : World) : PV → List Value → Prop
  | .bool b, vs => vs = [.bool b]
  | .int k n, vs => vs = [.int k n]
  | .str s, vs => vs = [.string s]
  | .nil, vs => vs = [.slice none 0 0]
  | .lst sz xs, vs => ∃ a cap, vs = [.slice a xs.length cap] ∧ xs.length ≤ cap ∧ RLL I w xs a sz 0
  | .vptr cells, vs => ∃ ad us, vs = [.pointer (some ad)] ∧ I ad.block ∧ At1 w ad us ∧ Rs I w cells us
  | .nilptr, vs => vs = [.pointer none]
  | .nilf, vs => vs = [.nilFunc]
  | .niface, vs => vs = [.nilIface]
  | .iface t v, vs => ∃ u, vs = [.iface t u] ∧ R I w v [u]
  | .arr n xs, vs => xs.length = n ∧ vs.length = n ∧ REs I w xs vs
  | .agg cells, vs => ∃ us, vs = [.agg us] ∧ Rs I w cells us.toList
  | .tup ps, vs => ∃ us, vs = [.tuple us] ∧ REs I w ps us.toList
/-- cells, one group behind the other -/
def Rs (I : Nat → Prop) (w : World) : List PV → List Value → Prop
  | [], vs => vs = []
  | c :: cs, vs => ∃ v1 v2, vs = v1 ++ v2 ∧ R I w c v1 ∧ Rs I w cs v2
/-- one value each -/
def REs (I : Nat → Prop) (w : World) : List PV → List Value → Prop
  | [], vs => vs = []
  | c :: cs, vs => ∃ v v2, vs = v :: v2 ∧ R I w c [v] ∧ REs I w cs v2
/-- the elements of a slice -/
def RLL (I : Nat → Prop) (w : World) : List (List PV) → Option Addr → Nat → Nat → Prop
  | [], _, _, _ => True
  | e :: es, a, sz, i => (∃ ad us, a = some ad ∧ I ad.block ∧ us.length = sz ∧ At1 w (ad.add (i * sz)) us ∧ Rs I w e us) ∧ RLL I w es a sz (i + 1)
end

/-- the blocks of I lie in w' as they lay in w -/
def SameOn (I : Nat → Prop) (w w' : World) : Prop := ∀ b, I b → w'.heap[b]? = w.heap[b]?

theorem At.mono {I : Nat → Prop} {w w' : World} (h : SameOn I w w') {ad : Addr} (hI : I ad.block) {vs : List Value} (ha : At w ad vs) : At w' ad vs := by
  intro j v hj
  have hb : (ad.add j).block = ad.block := by unfold Addr.add; split <;> rfl
  exact (World.cell?_of_block (w := w) (a := ad.add j) (by rw [hb]; exact h _ hI)).trans (ha j v hj)

theorem At1.mono {I : Nat → Prop} {w w' : World} (h : SameOn I w w') {ad : Addr} (hI : I ad.block) {vs : List Value} (ha : At1 w ad vs) : At1 w' ad vs := ⟨ha.1.mono h hI, ha.2⟩

theorem add_block (a : Addr) (n : Nat) : (a.add n).block = a.block := by unfold Addr.add; split <;> rfl
theorem add_add (a : Addr) (m n : Nat) : (a.add m).add n = a.add (m + n) := by
  unfold Addr.add
  by_cases h1 : m = 0 <;> by_cases h2 : n = 0 <;> simp [h1, h2, Nat.add_assoc]

section mono
variable {I I' : Nat → Prop} {w w' : World} (h : SameOn I w w') (hI : ∀ b, I b → I' b)
include h hI
mutual
theorem R.mono : ∀ (c : PV) (vs : List Value), R I w c vs → R I' w' c vs
  | .bool _, _, r => by simpa only [R] using r
  | .int _ _, _, r => by simpa only [R] using r
  | .str _, _, r => by simpa only [R] using r
  | .nil, _, r => by simpa only [R] using r
  | .lst sz xs, vs, r => by
    simp only [R] at r ⊢
    obtain ⟨a, cap, e, l, r⟩ := r
    exact ⟨a, cap, e, l, RLL.mono xs a sz 0 r⟩
  | .vptr cells, vs, r => by
    simp only [R] at r ⊢
    obtain ⟨ad, us, e, hi, ha, r⟩ := r
    exact ⟨ad, us, e, hI _ hi, ha.mono h hi, Rs.mono cells us r⟩
  | .nilptr, _, r => by simpa only [R] using r
  | .nilf, _, r => by simpa only [R] using r
  | .niface, _, r => by simpa only [R] using r
  | .iface t v, vs, r => by
    simp only [R] at r ⊢
    obtain ⟨u, e, r⟩ := r
    exact ⟨u, e, R.mono v [u] r⟩
  | .arr n xs, vs, r => by
    simp only [R] at r ⊢
    exact ⟨r.1, r.2.1, REs.mono xs vs r.2.2⟩
  | .agg cells, vs, r => by
    simp only [R] at r ⊢
    obtain ⟨us, e, r⟩ := r
    exact ⟨us, e, Rs.mono cells _ r⟩
  | .tup ps, vs, r => by
    simp only [R] at r ⊢
    obtain ⟨us, e, r⟩ := r
    exact ⟨us, e, REs.mono ps _ r⟩
theorem Rs.mono : ∀ (cs : List PV) (vs : List Value), Rs I w cs vs → Rs I' w' cs vs
  | [], _, r => by simpa only [Rs] using r
  | c :: cs, vs, r => by
    simp only [Rs] at r ⊢
    obtain ⟨v1, v2, e, r1, r2⟩ := r
    exact ⟨v1, v2, e, R.mono c v1 r1, Rs.mono cs v2 r2⟩
theorem REs.mono : ∀ (cs : List PV) (vs : List Value), REs I w cs vs → REs I' w' cs vs
  | [], _, r => by simpa only [REs] using r
  | c :: cs, vs, r => by
    simp only [REs] at r ⊢
    obtain ⟨v1, v2, e, r1, r2⟩ := r
    exact ⟨v1, v2, e, R.mono c _ r1, REs.mono cs v2 r2⟩
theorem RLL.mono : ∀ (xs : List (List PV)) (a : Option Addr) (sz i : Nat), RLL I w xs a sz i → RLL I' w' xs a sz i
  | [], _, _, _, _ => by simp only [RLL]
  | e :: es, a, sz, i, r => by
    simp only [RLL] at r ⊢
    obtain ⟨⟨ad, us, ea, hi, hl, ha, r⟩, r'⟩ := r
    exact ⟨⟨ad, us, ea, hI _ hi, hl, ha.mono h (by rw [add_block]; exact hi), Rs.mono e us r⟩, RLL.mono es a sz (i + 1) r'⟩
end
end mono

/-- how many cells a group has -/
def wd : PV → Nat
  | .arr n _ => n
  | _ => 1

theorem R.width {I : Nat → Prop} {w : World} {c : PV} {vs : List Value} (h : R I w c vs) : vs.length = wd c := by
  cases c <;> simp only [R, wd] at h ⊢
  case arr n xs => exact h.2.1
  all_goals (first | (subst h; rfl) | (obtain ⟨_, rfl, _⟩ := h; rfl) | (obtain ⟨_, _, rfl, _⟩ := h; rfl) | (obtain ⟨_, rfl⟩ := h; rfl))

theorem REs.length {I : Nat → Prop} {w : World} : ∀ {cs : List PV} {vs : List Value}, REs I w cs vs → vs.length = cs.length
  | [], _, h => by simp only [REs] at h; subst h; rfl
  | _ :: cs, _, h => by simp only [REs] at h; obtain ⟨_, v2, rfl, _, h2⟩ := h; simp [REs.length h2]

theorem REs.get {I : Nat → Prop} {w : World} : ∀ {cs : List PV} {vs : List Value} {i : Nat} {c : PV}, REs I w cs vs → cs[i]? = some c → ∃ v, vs[i]? = some v ∧ R I w c [v]
  | [], _, _, _, _, hi => by simp at hi
  | c :: cs, vs, 0, d, h, hi => by simp only [REs] at h; obtain ⟨v, v2, rfl, h1, _⟩ := h; simp at hi; subst hi; exact ⟨v, rfl, h1⟩
  | c :: cs, vs, i + 1, d, h, hi => by simp only [REs] at h; obtain ⟨v, v2, rfl, _, h2⟩ := h; simp at hi; simpa using REs.get h2 hi

theorem REs.set {I : Nat → Prop} {w : World} {u : PV} {x : Value} (hu : R I w u [x]) : ∀ {cs : List PV} {vs : List Value} (i : Nat), REs I w cs vs → REs I w (cs.set i u) (vs.set i x)
  | [], _, _, h => by simp only [REs] at h; subst h; simp [REs]
  | c :: cs, vs, 0, h => by simp only [REs] at h; obtain ⟨v, v2, rfl, _, h2⟩ := h; simp only [List.set_cons_zero, REs]; exact ⟨x, v2, rfl, hu, h2⟩
  | c :: cs, vs, i + 1, h => by simp only [REs] at h; obtain ⟨v, v2, rfl, h1, h2⟩ := h; simp only [List.set_cons_succ, REs]; exact ⟨v, _, rfl, h1, REs.set hu i h2⟩

theorem RLL.get {I : Nat → Prop} {w : World} {a : Option Addr} {sz : Nat} : ∀ {xs : List (List PV)} {i k : Nat} {e : List PV}, RLL I w xs a sz k → xs[i]? = some e →
    ∃ ad us, a = some ad ∧ I ad.block ∧ us.length = sz ∧ At1 w (ad.add ((k + i) * sz)) us ∧ Rs I w e us
  | [], _, _, _, _, hi => by simp at hi
  | x :: xs, 0, k, e, h, hi => by simp only [RLL] at h; simp at hi; subst hi; simpa using h.1
  | x :: xs, i + 1, k, e, h, hi => by
    simp only [RLL] at h; simp at hi
    have := RLL.get h.2 hi
    rwa [show k + 1 + i = k + (i + 1) from by omega] at this

theorem RLL.of_get {I : Nat → Prop} {w : World} {a : Option Addr} {sz : Nat} : ∀ {xs : List (List PV)} {k : Nat},
    (∀ i e, xs[i]? = some e → ∃ ad us, a = some ad ∧ I ad.block ∧ us.length = sz ∧ At1 w (ad.add ((k + i) * sz)) us ∧ Rs I w e us) → RLL I w xs a sz k
  | [], _, _ => by simp only [RLL]
  | x :: xs, k, h => by
    simp only [RLL]
    exact ⟨by simpa using h 0 x rfl, RLL.of_get fun i e hi => by rw [show k + 1 + i = k + (i + 1) from by omega]; exact h (i + 1) e (by simpa using hi)⟩

/-! ### what a function holds -/
inductive AV where
  | p (v : PV)
  | hs (id n : Nat)
  | ptr (id off : Nat)
  | eptr (id n sz i off : Nat)
  | aptr (id off i : Nat)
  | fn (f : Nat) (first cap : List AV)
  | yld (id : Nat)
  | agg (cells : List AV)
  | tup (vs : List AV)
  | undef
  deriving Inhabited

/-- the ghost: where a variable's block lies, what the header of a list is; the temporaries of frames that wait; where new memory begins -/
structure Gh where
  blk : Nat → Nat
  hdr : Nat → Nat → Value
  frm : Nat → Array Value × Nat
  b0 : Nat

mutual
def RA (I : Nat → Prop) (g : Gh) (w : World) : AV → List Value → Prop
  | .p c, vs => R I w c vs
  | .hs id n, vs => ∃ a c, vs = [.slice a n c] ∧ g.hdr id n = .slice a n c
  | .ptr id off, vs => vs = [.pointer (some ((⟨g.blk id, 0, none⟩ : Addr).add off))]
  | .eptr id n sz i off, vs => ∃ ad m c, g.hdr id n = .slice (some ad) m c ∧ vs = [.pointer (some (ad.add (i * sz + off)))]
  | .aptr id off i, vs => vs = [.pointer (some ((⟨g.blk id, 0, none⟩ : Addr).add (off + i)))]
  | .fn f first cap, vs => ∃ u1 u2, vs = [.func (.func f) u1 u2] ∧ RAEs I g w first u1.toList ∧ RAEs I g w cap u2.toList
  | .yld id, vs => vs = [.func (.yield (g.blk id)) #[] #[]]
  | .agg cells, vs => ∃ us, vs = [.agg us] ∧ RAs I g w cells us.toList
  | .tup ps, vs => ∃ us, vs = [.tuple us] ∧ RAEs I g w ps us.toList
  | .undef, vs => ∃ v, vs = [v]
def RAs (I : Nat → Prop) (g : Gh) (w : World) : List AV → List Value → Prop
  | [], vs => vs = []
  | c :: cs, vs => ∃ v1 v2, vs = v1 ++ v2 ∧ RA I g w c v1 ∧ RAs I g w cs v2
def RAEs (I : Nat → Prop) (g : Gh) (w : World) : List AV → List Value → Prop
  | [], vs => vs = []
  | c :: cs, vs => ∃ v v2, vs = v :: v2 ∧ RA I g w c [v] ∧ RAEs I g w cs v2
end

mutual
/-- all ids (a list's with its length) are of D -/
def AV.on (D : Nat → Nat → Prop) : AV → Prop
  | .p _ => True
  | .hs id n => D id n
  | .ptr id _ => D id 0
  | .eptr id n _ _ _ => D id n
  | .aptr id _ _ => D id 0
  | .fn _ first cap => AV.ons D first ∧ AV.ons D cap
  | .yld id => D id 0
  | .agg cells => AV.ons D cells
  | .tup vs => AV.ons D vs
  | .undef => True
def AV.ons (D : Nat → Nat → Prop) : List AV → Prop
  | [] => True
  | c :: cs => AV.on D c ∧ AV.ons D cs
end

/-- two ghosts that agree on D -/
def Gh.same (D : Nat → Nat → Prop) (g g' : Gh) : Prop := ∀ id m, D id m → g'.blk id = g.blk id ∧ g'.hdr id m = g.hdr id m
/-- ... that agree on the frames that wait -/
def Gh.kp (g g' : Gh) : Prop := g'.frm = g.frm ∧ g'.b0 = g.b0
theorem Gh.kp.refl (g : Gh) : Gh.kp g g := ⟨rfl, rfl⟩
theorem Gh.kp.trans {g g1 g2 : Gh} (h : Gh.kp g g1) (k : Gh.kp g1 g2) : Gh.kp g g2 := ⟨k.1.trans h.1, k.2.trans h.2⟩

section mono
variable {I I' : Nat → Prop} {w w' : World} (h : SameOn I w w') (hI : ∀ b, I b → I' b) {D : Nat → Nat → Prop} {g g' : Gh} (hg : g.same D g')
include h hI hg
mutual
theorem RA.mono : ∀ (c : AV) (vs : List Value), c.on D → RA I g w c vs → RA I' g' w' c vs
  | .p c, vs, _, r => by simp only [RA] at r ⊢; exact R.mono h hI c vs r
  | .hs id m, vs, l, r => by simp only [RA, AV.on] at r l ⊢; rw [(hg id m l).2]; exact r
  | .ptr id off, vs, l, r => by simp only [RA, AV.on] at r l ⊢; rw [(hg id 0 l).1]; exact r
  | .eptr id m sz i off, vs, l, r => by simp only [RA, AV.on] at r l ⊢; rw [(hg id m l).2]; exact r
  | .aptr id off i, vs, l, r => by simp only [RA, AV.on] at r l ⊢; rw [(hg id 0 l).1]; exact r
  | .fn f first cap, vs, l, r => by
    simp only [RA, AV.on] at r l ⊢
    obtain ⟨u1, u2, e, r1, r2⟩ := r
    exact ⟨u1, u2, e, RAEs.mono first _ l.1 r1, RAEs.mono cap _ l.2 r2⟩
  | .yld id, vs, l, r => by simp only [RA, AV.on] at r l ⊢; rw [(hg id 0 l).1]; exact r
  | .agg cells, vs, l, r => by
    simp only [RA, AV.on] at r l ⊢
    obtain ⟨us, e, r⟩ := r
    exact ⟨us, e, RAs.mono cells _ l r⟩
  | .tup ps, vs, l, r => by
    simp only [RA, AV.on] at r l ⊢
    obtain ⟨us, e, r⟩ := r
    exact ⟨us, e, RAEs.mono ps _ l r⟩
  | .undef, vs, _, r => by simpa only [RA] using r
theorem RAs.mono : ∀ (cs : List AV) (vs : List Value), AV.ons D cs → RAs I g w cs vs → RAs I' g' w' cs vs
  | [], _, _, r => by simpa only [RAs] using r
  | c :: cs, vs, l, r => by
    simp only [RAs, AV.ons] at r l ⊢
    obtain ⟨v1, v2, e, r1, r2⟩ := r
    exact ⟨v1, v2, e, RA.mono c v1 l.1 r1, RAs.mono cs v2 l.2 r2⟩
theorem RAEs.mono : ∀ (cs : List AV) (vs : List Value), AV.ons D cs → RAEs I g w cs vs → RAEs I' g' w' cs vs
  | [], _, _, r => by simpa only [RAEs] using r
  | c :: cs, vs, l, r => by
    simp only [RAEs, AV.ons] at r l ⊢
    obtain ⟨v1, v2, e, r1, r2⟩ := r
    exact ⟨v1, v2, e, RA.mono c _ l.1 r1, RAEs.mono cs v2 l.2 r2⟩
end
end mono

def awd : AV → Nat
  | .p c => wd c
  | _ => 1

theorem RA.width {I : Nat → Prop} {g : Gh} {w : World} {c : AV} {vs : List Value} (h : RA I g w c vs) : vs.length = awd c := by
  cases c <;> simp only [RA, awd] at h ⊢
  case p c => exact h.width
  all_goals (first | (subst h; rfl) | (obtain ⟨_, rfl, _⟩ := h; rfl) | (obtain ⟨_, _, rfl, _⟩ := h; rfl) | (obtain ⟨_, rfl⟩ := h; rfl) | (obtain ⟨_, _, _, _, rfl⟩ := h; rfl))

mutual
theorem AV.on_mono {D D' : Nat → Nat → Prop} (h : ∀ id m, D id m → D' id m) : ∀ (c : AV), c.on D → c.on D'
  | .p _, _ => by simp only [AV.on]
  | .hs _ _, r => by simp only [AV.on] at r ⊢; exact h _ _ r
  | .ptr _ _, r => by simp only [AV.on] at r ⊢; exact h _ _ r
  | .eptr _ _ _ _ _, r => by simp only [AV.on] at r ⊢; exact h _ _ r
  | .aptr _ _ _, r => by simp only [AV.on] at r ⊢; exact h _ _ r
  | .fn _ a b, r => by simp only [AV.on] at r ⊢; exact ⟨AV.ons_mono h a r.1, AV.ons_mono h b r.2⟩
  | .yld _, r => by simp only [AV.on] at r ⊢; exact h _ _ r
  | .agg cs, r => by simp only [AV.on] at r ⊢; exact AV.ons_mono h cs r
  | .tup cs, r => by simp only [AV.on] at r ⊢; exact AV.ons_mono h cs r
  | .undef, _ => by simp only [AV.on]
theorem AV.ons_mono {D D' : Nat → Nat → Prop} (h : ∀ id m, D id m → D' id m) : ∀ (cs : List AV), AV.ons D cs → AV.ons D' cs
  | [], _ => by simp only [AV.ons]
  | c :: cs, r => by simp only [AV.ons] at r ⊢; exact ⟨AV.on_mono h c r.1, AV.ons_mono h cs r.2⟩
end

end Go.Abs

namespace Go.Abs
open Go Go.RowKit

/-- a block of the function's own: a variable's cells; a list (element type, cells an element, elements, may it still be written?) -/
inductive ABlk where
  | var (cells : List AV)
  /-- 'fro': written no more; 'fl': what its elements hold is new memory alone -/
  | list (e : TypeId) (sz : Nat) (xs : List (List PV)) (fro fl : Bool)
  /-- a loop's record: its state, the jump that waits -/
  | loop (st : LoopState) (pending : Option Code) (n : Nat) (env : List (Nat × AV)) (params : Array Nat) (assign body : Code)
  /-- the temporaries of a frame that waits -/
  | frame (env : List (Nat × AV))
  /-- a variable that is read alone, in its place -/
  | rvar (cells : List PV)
  deriving Inhabited

abbrev Heap := List (Nat × ABlk)

structure St where
  env : List (Nat × AV)
  heap : Heap
  nx : Nat
  deriving Inhabited

def look : List (Nat × AV) → Nat → AV
  | [], _ => .undef
  | (i, v) :: r, j => if i = j then v else look r j

def hlook : Heap → Nat → Option ABlk
  | [], _ => none
  | (i, b) :: r, j => if i = j then some b else hlook r j

/-- a block is let go -/
def hdel : Heap → Nat → Heap
  | [], _ => []
  | (i, b) :: r, j => if i = j then hdel r j else (i, b) :: hdel r j

/-- a block is turned in its place -/
def hset : Heap → Nat → ABlk → Heap
  | [], _, _ => []
  | (i, b) :: r, j, x => if i = j then (i, x) :: r else (i, b) :: hset r j x

def put (env : List (Nat × AV)) (d : Option Nat) (v : AV) : List (Nat × AV) :=
  match d with
  | some d => (d, v) :: env
  | none => env

/-- a constant -/
def evc : Value → AV
  | .bool b => .p (.bool b)
  | .int k n => .p (.int k n)
  | .string s => .p (.str s)
  | .pointer none => .p .nilptr
  | .slice none 0 0 => .p .nil
  | .nilFunc => .p .nilf
  | .nilIface => .p .niface
  | _ => .undef

def ev (env : List (Nat × AV)) : Operand → AV
  | .tmp t => look env t
  | .const v => evc v
  | .func f => .fn f [] []
  | .global _ => .undef

/-! ### cells -/
def cellsOf : AV → List AV
  | .agg cs => cs
  | .p (.agg cs) => cs.map .p
  | v => [v]

def dropW : List AV → Nat → Option (List AV)
  | cs, 0 => some cs
  | [], _ + 1 => none
  | c :: cs, n + 1 => if awd c ≤ n + 1 then dropW cs (n + 1 - awd c) else none

def takeW : List AV → Nat → Option (List AV)
  | _, 0 => some []
  | [], _ + 1 => none
  | c :: cs, n + 1 => if awd c ≤ n + 1 then (takeW cs (n + 1 - awd c)).map (c :: ·) else none

def sub (cs : List AV) (off n : Nat) : Option (List AV) := (dropW cs off).bind (takeW · n)

def sumW : List AV → Nat
  | [] => 0
  | c :: cs => awd c + sumW cs

/-- the cells from off on replaced -/
def putAt (cs : List AV) (off : Nat) (news : List AV) : Option (List AV) :=
  match takeW cs off, dropW cs (off + sumW news) with
  | some a, some b => some (a ++ news ++ b)
  | _, _ => none

/-- a single cell's value -/
def oneB : AV → Bool
  | .p (.arr _ _) | .undef => false
  | _ => true

/-- an array?  -/
def isArr : AV → Bool
  | .p (.arr _ _) => true
  | _ => false

def ldres (agg : Bool) (cs : List AV) : Option AV :=
  match agg, cs with
  | true, cs => some (.agg cs)
  | false, [c] => if isArr c then none else some c
  | false, _ => none

def onePV : PV → Bool
  | .arr _ _ | .agg _ | .tup _ => false
  | _ => true
/-- may be stored into a cell by itself -/
def oneAV : AV → Bool
  | .p c => onePV c
  | .agg _ | .tup _ | .undef => false
  | _ => true
/-- may be stored: an array's cells too -/
def oneW : AV → Bool
  | .p (.arr _ xs) => xs.all onePV
  | v => oneAV v

mutual
def toP (h : Heap) : AV → Option PV
  | .p c => some c
  | .hs id n =>
    match hlook h id with
    | some (.list _ sz xs _ _) => if xs.length = n then some (.lst sz xs) else none
    | _ => none
  | .agg cells => (toPs h cells).map .agg
  | .tup vs => (toPs h vs).map .tup
  | _ => none
def toPs (h : Heap) : List AV → Option (List PV)
  | [] => some []
  | c :: cs => (toP h c).bind fun c => (toPs h cs).map (c :: ·)
end

mutual
/-- without memory -/
def flat : PV → Bool
  | .bool _ | .int _ _ | .str _ | .nil | .nilptr | .nilf | .niface => true
  | .lst _ _ | .vptr _ | .iface _ _ => false
  | .arr _ xs => flats xs
  | .agg xs => flats xs
  | .tup xs => flats xs
def flats : List PV → Bool
  | [] => true
  | c :: cs => flat c && flats cs
end

mutual
/-- what it holds is new memory alone -/
def freshA (h : Heap) : AV → Bool
  | .p c => flat c
  | .hs id _ => match hlook h id with | some (.list _ _ _ _ fl) => fl | _ => false
  | .agg cs => freshAs h cs
  | .tup cs => freshAs h cs
  | _ => false
def freshAs (h : Heap) : List AV → Bool
  | [] => true
  | c :: cs => freshA h c && freshAs h cs
end

/-- the elements of what is appended -/
def freshSrc (h : Heap) : AV → Bool
  | .p (.lst _ ys) => ys.all flats
  | .hs id _ => match hlook h id with | some (.list _ _ _ _ fl) => fl | _ => false
  | _ => false

mutual
/-- the lists of a value: written no more -/
def frz (h : Heap) : AV → Heap
  | .hs id _ =>
    match hlook h id with
    | some (.list e sz xs _ fl) => hset h id (.list e sz xs true fl)
    | _ => h
  | .agg cells => frzs h cells
  | .tup vs => frzs h vs
  | _ => h
def frzs (h : Heap) : List AV → Heap
  | [] => h
  | c :: cs => frzs (frz h c) cs
end

def ofP : PV → AV
  | .agg cells => .agg (cells.map .p)
  | .tup vs => .tup (vs.map ofP1)
  | v => .p v
where
  ofP1 : PV → AV
  | .agg cells => .agg (cells.map .p)
  | v => .p v

/-! ### types -/
def psz (P : Program) (t : TypeId) : Option Nat := (P.info? t).map (·.size)
def pby (P : Program) (t : TypeId) : Nat := ((P.info? t).map (·.bytes)).getD 0
/-- is it one of cells, and how many it has -/
def pty (P : Program) (t : TypeId) : Option (Bool × Nat) :=
  match P.underlying t, P.info? t with
  | some (.struct _), some i | some (.array _ _), some i => some (true, i.size)
  | some _, some i => some (false, i.size)
  | _, _ => none
def pelem (P : Program) (t : TypeId) : Option TypeId :=
  match P.underlying t with
  | some (.slice e) => some e
  | _ => none
def parr (P : Program) (t : TypeId) : Option (Nat × TypeId) :=
  match P.underlying t with
  | some (.array n e) => some (n, e)
  | _ => none
def pfld (P : Program) (t : TypeId) (f : Nat) : Option (Nat × TypeId) :=
  match P.underlying t with
  | some (.struct fs) => (fs[f]?).map fun x => (x.offset, x.type)
  | _ => none
/-- a struct's fields: where they lie, how many cells they have -/
def pplaces (P : Program) (t : TypeId) : Option (List (Nat × Nat)) :=
  match P.underlying t with
  | some (.struct fs) => fs.toList.mapM fun f => (P.info? f.type).map fun i => (f.offset, i.size)
  | _ => none
def pint (P : Program) (t : TypeId) : Option IntKind :=
  match P.underlying t with
  | some (.int k) => some k
  | _ => none
def pstr (P : Program) (t : TypeId) : Bool :=
  match P.underlying t with
  | some .string => true
  | _ => false

/-! ### memory -/
def vload (P : Program) (h : Heap) (t : TypeId) (a : AV) : Option AV :=
  match pty P t, a with
  | some (agg, n), .ptr id off =>
    match hlook h id with
    | some (.var cells) => (sub cells off n).bind (ldres agg)
    | some (.rvar cells) => (sub (cells.map .p) off n).bind (ldres agg)
    | _ => none
  | some (agg, n), .aptr id off i =>
    match hlook h id with
    | some (.var cells) =>
      match dropW cells off with
      | some (.p (.arr _ xs) :: _) => if agg || n != 1 then none else (xs[i]?).map .p
      | _ => if agg || n != 1 then none else (sub cells (off + i) 1).bind (ldres false)
    | _ => none
  | some (agg, n), .eptr id m sz i off =>
    match hlook h id with
    | some (.list _ sz' xs _ _) => if xs.length = m ∧ sz' = sz then (xs[i]?).bind fun c => (sub (c.map .p) off n).bind (ldres agg) else none
    | _ => none
  | some (agg, n), .p (.vptr cells) => (sub (cells.map .p) 0 n).bind (ldres agg)
  | _, _ => none

def vstore (P : Program) (h : Heap) (t : TypeId) (a v : AV) : Option Heap :=
  match psz P t, a with
  | some n, .ptr id off =>
    match hlook h id with
    | some (.var cells) =>
      if sumW (cellsOf v) = n ∧ (cellsOf v).all oneW then (putAt cells off (cellsOf v)).map fun cs => hset h id (.var cs) else none
    | _ => none
  | some n, .aptr id off i =>
    match hlook h id with
    | some (.var cells) =>
      match dropW cells off with
      | some (.p (.arr m xs) :: _) =>
        match v with
        | .p c => if onePV c ∧ n = 1 ∧ i < xs.length then (putAt cells off [.p (.arr m (xs.set i c))]).map fun cs => hset h id (.var cs) else none
        | _ => none
      | some _ => if sumW (cellsOf v) = 1 ∧ n = 1 ∧ (cellsOf v).all oneAV then (putAt cells (off + i) (cellsOf v)).map fun cs => hset h id (.var cs) else none
      | none => none
    | _ => none
  | some n, .eptr id m sz i off =>
    match hlook h id with
    | some (.list e sz' xs false fl) =>
      match xs[i]? with
      | some c =>
        (toPs [] (cellsOf v)).bind fun vc =>
          if xs.length = m ∧ sz' = sz ∧ sumW (cellsOf v) = n ∧ (cellsOf v).all oneW = true ∧ flats vc = true then
            (putAt (c.map .p) off (cellsOf v)).bind fun cs => (toPs [] cs).map fun c' => hset h id (.list e sz' (xs.set i c') false fl) else none
      | none => none
    | _ => none
  | _, _ => none

/-! ### integers -/
def inR (k : IntKind) (x : Int) : Prop := k.wrap x = x
def i64R (x : Int) : Prop := -9223372036854775808 ≤ x ∧ x ≤ 9223372036854775807

def ibits (op : BinOp) (k : IntKind) (x y : Int) : Int :=
  let a := BitVec.ofInt k.bits x
  let b := BitVec.ofInt k.bits y
  match op with
  | .and => k.wrap (a &&& b).toNat
  | .or => k.wrap (a ||| b).toNat
  | .xor => k.wrap (a ^^^ b).toNat
  | _ => k.wrap (a &&& ~~~b).toNat

/-- sums of an int are said to be in its range (exact), those of other kinds go round -/
def iarith (wraps : Bool) (k : IntKind) (x : Int) : Prop × AV :=
  match wraps, k with
  | false, .i64 => (i64R x, .p (.int .i64 x))
  | _, k => (True, .p (.int k (k.wrap x)))

def intOp (wraps : Bool) (op : BinOp) (k : IntKind) (x y : Int) : Option (Prop × AV) :=
  match op with
  | .add => some (iarith wraps k (x + y))
  | .sub => some (iarith wraps k (x - y))
  | .mul => some (iarith wraps k (x * y))
  | .quo => some (y ≠ 0, .p (.int k (k.wrap (x.tdiv y))))
  | .rem => some (y ≠ 0, .p (.int k (x.tmod y)))
  | .and => some (True, .p (.int k (ibits .and k x y)))
  | .or => some (True, .p (.int k (ibits .or k x y)))
  | .xor => some (True, .p (.int k (ibits .xor k x y)))
  | .andNot => some (True, .p (.int k (ibits .andNot k x y)))
  | .eql => some (True, .p (.bool (x == y)))
  | .neq => some (True, .p (.bool (x != y)))
  | .lss => some (True, .p (.bool (decide (x < y))))
  | .leq => some (True, .p (.bool (decide (x ≤ y))))
  | .gtr => some (True, .p (.bool (decide (x > y))))
  | .geq => some (True, .p (.bool (decide (x ≥ y))))
  | _ => none

def shOp (op : BinOp) (k : IntKind) (x y : Int) : Option (Prop × AV) :=
  match op with
  | .shl => some (0 ≤ y, .p (.int k (k.wrap (x * 2 ^ (min y.toNat k.bits)))))
  | .shr => some (0 ≤ y, .p (.int k (x.fdiv (2 ^ (min y.toNat k.bits)))))
  | _ => none

def strOp (op : BinOp) (x y : ByteArray) : Option (Prop × AV) :=
  match op with
  | .add => some ((x.size + y.size : Nat) ≤ (9223372036854775807 : Int), .p (.str (x ++ y)))
  | .eql => some (True, .p (.bool (x.toList == y.toList)))
  | .neq => some (True, .p (.bool !(x.toList == y.toList)))
  | .lss => some (True, .p (.bool (Op.bytesLess x.toList y.toList)))
  | .leq => some (True, .p (.bool (Op.bytesLess x.toList y.toList || x.toList == y.toList)))
  | .gtr => some (True, .p (.bool !(Op.bytesLess x.toList y.toList || x.toList == y.toList)))
  | .geq => some (True, .p (.bool !(Op.bytesLess x.toList y.toList)))
  | _ => none

def abin (P : Program) (wraps : Bool) (op : BinOp) (t : TypeId) (x y : AV) : Option (Prop × AV) :=
  match x, y with
  | .p (.int k a), .p (.int k' b) =>
    match op with
    | .shl | .shr => shOp op k a b
    | _ => if k = k' then intOp wraps op k a b else none
  | .p (.str a), .p (.str b) => strOp op a b
  | .p (.bool a), .p (.bool b) =>
    match op, P.underlying t with
    | .eql, some .bool => some (True, .p (.bool (a == b)))
    | .neq, some .bool => some (True, .p (.bool !(a == b)))
    | _, _ => none
  | _, _ => none

def aun (op : UnOp) (x : AV) : Option (Prop × AV) :=
  match op, x with
  | .not, .p (.bool b) => some (True, .p (.bool !b))
  | .neg, .p (.int k n) => some (True, .p (.int k (k.wrap (0 - n))))
  | _, _ => none

/-! ### one operation -/
/-- what an operation comes to: what must hold, its value, the blocks behind it, whether the new id is used -/
structure Res where
  vc : Prop
  v : AV
  heap : Heap

def aint : AV → Option Int
  | .p (.int _ n) => some n
  | _ => none

def aslice (P : Program) (h : Heap) (t : TypeId) (x : AV) (lo hi : Option AV) : Option Res :=
  let at0 : Option Int := match lo with | none => some 0 | some v => aint v
  match at0, x with
  | some l, .p (.lst sz xs) =>
    (match hi with | none => some (xs.length : Int) | some v => aint v).bind fun u =>
      if (pelem P t).bind (psz P) = some sz then some ⟨0 ≤ l ∧ l ≤ u ∧ u ≤ xs.length, .p (.lst sz ((xs.take u.toNat).drop l.toNat)), h⟩ else none
  | some l, .p .nil => (match hi with | none => some 0 | some v => aint v).bind fun u => if ((pelem P t).bind (psz P)).isSome then some ⟨l = 0 ∧ u = 0, .p .nil, h⟩ else none
  | some l, .hs id n =>
    match hlook h id with
    | some (.list e sz xs _ fl) =>
      (match hi with | none => some (xs.length : Int) | some v => aint v).bind fun u =>
        if xs.length = n ∧ (pelem P t).bind (psz P) = some sz then some ⟨0 ≤ l ∧ l ≤ u ∧ u ≤ xs.length, .p (.lst sz ((xs.take u.toNat).drop l.toNat)), hset h id (.list e sz xs true fl)⟩ else none
    | _ => none
  | some l, .p (.str s) => (match hi with | none => some (s.size : Int) | some v => aint v).bind fun u => if pstr P t then some ⟨0 ≤ l ∧ l ≤ u ∧ u ≤ s.size, .p (.str (s.extract l.toNat u.toNat)), h⟩ else none
  | _, _ => none

/-- a struct's or an array's parts put into its zero's cells -/
def afill (place : Nat → Option (Nat × Nat)) : List AV → List (Nat × AV) → Option (List AV)
  | cells, [] => some cells
  | cells, (i, v) :: rest =>
    match place i with
    | some (off, size) => if sumW (cellsOf v) = size ∧ (cellsOf v).all oneB then (putAt cells off (cellsOf v)).bind fun cs => afill place cs rest else none
    | none => none

def aparts (env : List (Nat × AV)) (ps : Array (Nat × Operand)) : List (Nat × AV) := ps.toList.map fun (i, x) => (i, ev env x)

/-- the elements of a slice literal: every one given, in order -/
def aelems (P : Program) (e : TypeId) (h : Heap) : Nat → List (Nat × AV) → Option (List (List PV))
  | _, [] => some []
  | k, (i, v) :: rest =>
    if i = k ∧ some (sumW (cellsOf v)) = psz P e ∧ (cellsOf v).all oneW then (toPs h (cellsOf v)).bind fun c => (aelems P e h (k + 1) rest).map (c :: ·) else none

def frzParts (h : Heap) : List (Nat × AV) → Heap
  | [] => h
  | (_, v) :: rest => frzParts (frzs h (cellsOf v)) rest

/-- what is appended: its elements -/
def asrc (h : Heap) : AV → Option (Nat × List (List PV))
  | .p (.lst sz ys) => some (sz, ys)
  | .hs id n =>
    match hlook h id with
    | some (.list _ sz ys _ _) => if ys.length = n then some (sz, ys) else none
    | _ => none
  | _ => none

/-- bytes as a string -/
def u8s : List (List PV) → Option (List Int)
  | [] => some []
  | [.int .u8 n] :: r => (u8s r).map (n :: ·)
  | _ => none
def mkStr (ns : List Int) : ByteArray := ns.foldl (fun r n => r.push (UInt8.ofNat n.toNat)) ByteArray.empty
def bytesV (h : Heap) : AV → Option ByteArray
  | .p .nil => some .empty
  | v => (asrc h v).bind fun q => if q.1 = 1 then (u8s q.2).map mkStr else none
def pu8s (P : Program) (t : TypeId) : Bool :=
  match pelem P t with
  | some e => match pint P e with | some .u8 => true | _ => false
  | none => false

def isHs (id : Nat) : AV → Bool
  | .hs id' _ => id == id'
  | _ => false

def aappend (P : Program) (Z : Nat → List PV) (h : Heap) (nid : Nat) (t : TypeId) (x y : AV) : Option Res :=
  (pelem P t).bind fun e =>
    if (Z e).isEmpty then none else
    match x, y with
    | .p .nil, .p .nil => some ⟨True, .p .nil, h⟩
    | .hs id n, .p .nil =>
      match hlook h id with
      | some (.list _ _ xs _ _) => if xs.length = n then some ⟨True, .hs id n, h⟩ else none
      | _ => none
    | .p .nil, y => (asrc h y).bind fun (sz, ys) =>
        if some sz = psz P e ∧ 0 < sz then some ⟨ys.length * pby P e ≤ 140737488355328 ∧ ys.length ≤ 9223372036854775807, .hs nid ys.length, (nid, .list e sz ys false (freshSrc h y)) :: h⟩ else none
    | .hs id n, y =>
      match hlook h id, asrc h y with
      | some (.list e' sz' xs false fl), some (sz, ys) =>
        if xs.length = n ∧ e' = e ∧ some sz = psz P e ∧ 0 < sz ∧ sz' = sz ∧ isHs id y = false then
          some ⟨(xs.length + ys.length) * pby P e ≤ 140737488355328 ∧ xs.length + ys.length ≤ 9223372036854775807, .hs id (xs.length + ys.length), hset h id (.list e sz (xs ++ ys) false (fl && freshSrc h y))⟩ else none
      | _, _ => none
    | _, _ => none

def alen (P : Program) (h : Heap) (t : TypeId) : AV → Option AV
  | .p (.lst _ xs) => if (pelem P t).isSome then some (.p (.int .i64 xs.length)) else none
  | .p .nil => if (pelem P t).isSome then some (.p (.int .i64 0)) else none
  | .hs _ n => if (pelem P t).isSome then some (.p (.int .i64 n)) else none
  | .p (.str s) => if pstr P t then some (.p (.int .i64 s.size)) else none
  | _ => none

def amin : AV → List AV → Option AV
  | v, [] => some v
  | .p (.int k x), .p (.int _ y) :: r => amin (.p (.int k (if y < x then y else x))) r
  | _, _ => none
def amax : AV → List AV → Option AV
  | v, [] => some v
  | .p (.int k x), .p (.int _ y) :: r => amax (.p (.int k (if y > x then y else x))) r
  | _, _ => none

def pick (t : Bool) (a b : AV) : AV :=
  match a, b with
  | .p (.bool x), .p (.bool y) => .p (.bool (bif t then x else y))
  | a, b => bif t then a else b

/-- zeros of types, as cells -/
abbrev Zeros := Nat → List PV
def ZOk (P : Program) (Z : Zeros) : Prop := ∀ t, Z t ≠ [] → ∃ i z, P.info? t = some i ∧ i.zero = some z ∧ z.cells.size = i.size ∧ (∀ v ∈ z.cells.toList, v.oneCell' = true) ∧ ∀ I w, Rs I w (Z t) z.cells.toList

/-- one operation that calls no function of Go -/
def astep (P : Program) (Z : Zeros) (wr : Bool) (env : List (Nat × AV)) (h : Heap) (nid : Nat) (o : Oper) : Option Res :=
  match o.op with
  | .move x | .assign x => some ⟨True, ev env x, h⟩
  | .pick c a b =>
    match ev env c with
    | .p (.bool t) => some ⟨True, pick t (ev env a) (ev env b), h⟩
    | _ => none
  | .alloc t => if (Z t).isEmpty then none else some ⟨True, .ptr nid 0, (nid, .var ((Z t).map .p)) :: h⟩
  | .box _ x => if (cellsOf (ev env x)).all oneB then some ⟨True, .ptr nid 0, (nid, .var (cellsOf (ev env x))) :: h⟩ else none
  | .load t a => (vload P h t (ev env a)).map fun v => ⟨True, v, h⟩
  | .store t a x => (vstore P h t (ev env a) (ev env x)).map fun h' => ⟨True, .undef, h'⟩
  | .nilCheck x =>
    match ev env x with
    | .ptr id off => some ⟨True, .ptr id off, h⟩
    | .eptr id n sz i off => some ⟨True, .eptr id n sz i off, h⟩
    | .aptr id off i => some ⟨True, .aptr id off i, h⟩
    | .p (.vptr cells) => some ⟨True, .p (.vptr cells), h⟩
    | .fn f a b => some ⟨True, .fn f a b, h⟩
    | _ => none
  | .binOp op t x y _ => (abin P wr op t (ev env x) (ev env y)).map fun r => ⟨r.1, r.2, h⟩
  | .unOp op _ x => (aun op (ev env x)).map fun r => ⟨r.1, r.2, h⟩
  | .convert src dst x =>
    match ev env x with
    | .p (.int _ n) => match pint P src, pint P dst with | some _, some k => some ⟨True, .p (.int k (k.wrap n)), h⟩ | _, _ => none
    | v => if pu8s P src && pstr P dst then (bytesV h v).map fun s => ⟨True, .p (.str s), h⟩ else none
  | .makeFunc (.func f) first cap => some ⟨True, .fn f (first.toList.map (ev env)) (cap.toList.map (ev env)), h⟩
  | .fieldAddr s x f =>
    (pfld P s f).bind fun (fo, ft) =>
      if psz P ft = none ∨ psz P ft = some 0 then none else
      match ev env x with
      | .ptr id off => some ⟨True, .ptr id (off + fo), h⟩
      | .eptr id n sz i off => some ⟨True, .eptr id n sz i (off + fo), h⟩
      | .p (.vptr cells) => (dropW (cells.map .p) fo).bind fun cs => (toPs [] cs).map fun cs => ⟨True, .p (.vptr cs), h⟩
      | _ => none
  | .field s x f =>
    (pfld P s f).bind fun (fo, ft) =>
      match ev env x with
      | .agg cells => (pty P ft).bind fun (agg, n) => ((sub cells fo n).bind (ldres agg)).map fun v => ⟨True, v, h⟩
      | _ => none
  | .indexAddr t x ix =>
    match ev env x, ev env ix with
    | .p (.lst sz xs), .p (.int _ i) =>
      if (pelem P t).bind (psz P) = some sz then (xs[i.toNat]?).map fun e => ⟨0 ≤ i, .p (.vptr e), h⟩ else none
    | .hs id n, .p (.int _ i) =>
      match hlook h id with
      | some (.list _ sz xs _ _) => if (pelem P t).bind (psz P) = some sz ∧ xs.length = n then (xs[i.toNat]?).map fun _ => ⟨0 ≤ i, .eptr id n sz i.toNat 0, h⟩ else none
      | _ => none
    | .ptr id off, .p (.int _ i) =>
      match parr P t with
      | some (len, e) => if psz P e = some 1 then some ⟨0 ≤ i ∧ i < len, .aptr id off i.toNat, h⟩ else none
      | none => none
    | _, _ => none
  | .index t x ix =>
    match ev env x, ev env ix with
    | .agg [.p (.arr n xs)], .p (.int _ i) =>
      match parr P t with
      | some (len, e) => if pty P e = some (false, 1) ∧ len = n then (xs[i.toNat]?).map fun c => ⟨0 ≤ i, .p c, h⟩ else none
      | none => none
    | .p (.str s), .p (.int _ i) => if pstr P t then (s[i.toNat]?).map fun b => ⟨0 ≤ i, .p (.int .u8 b.toNat), h⟩ else none
    | _, _ => none
  | .slice t x lo hi none => aslice P h t (ev env x) (lo.map (ev env)) (hi.map (ev env))
  | .build t parts =>
    if (Z t).isEmpty then none else
    (pplaces P t).bind fun pl => (afill (fun f => pl[f]?) ((Z t).map .p) (aparts env parts)).map fun cs => ⟨True, .agg cs, h⟩
  | .buildSlice t len parts =>
    (pelem P t).bind fun e =>
      (psz P e).bind fun sz =>
        if parts.size = len ∧ len * sz ≤ 16777216 ∧ 0 < sz ∧ (Z e).isEmpty = false then (aelems P e h 0 (aparts env parts)).map fun xs => ⟨True, .hs nid len, (nid, .list e sz xs false ((aparts env parts).all fun q => freshAs h (cellsOf q.2))) :: frzParts h (aparts env parts)⟩ else none
  | .makeSlice t l c =>
    (pelem P t).bind fun e =>
      match ev env l, ev env c, psz P e with
      | .p (.int _ n), .p (.int _ m), some sz => if (Z e).isEmpty || sz == 0 then none else
          some ⟨0 ≤ n ∧ n ≤ m ∧ m * pby P e ≤ 140737488355328 ∧ m ≤ 9223372036854775807, .hs nid n.toNat, (nid, .list e sz (List.replicate n.toNat (Z e)) false (flats (Z e))) :: h⟩
      | _, _, _ => none
  | .extract x i =>
    match ev env x with
    | .tup vs => (vs[i]?).map fun v => ⟨True, v, h⟩
    | _ => none
  | .call { callee := .builtin .len, args, argTypes } =>
    match args.toList, argTypes.toList with
    | [x], [t] => (alen P h t (ev env x)).map fun v => ⟨True, v, h⟩
    | _, _ => none
  | .call { callee := .builtin .append, args, argTypes } =>
    match args.toList, argTypes.toList with
    | [x, y], [t, t'] => if t = t' then aappend P Z h nid t (ev env x) (ev env y) else none
    | _, _ => none
  | .call { callee := .builtin .min, args, .. } =>
    match args.toList with
    | x :: r => (amin (ev env x) (r.map (ev env))).map fun v => ⟨True, v, h⟩
    | _ => none
  | .call { callee := .builtin .max, args, .. } =>
    match args.toList with
    | x :: r => (amax (ev env x) (r.map (ev env))).map fun v => ⟨True, v, h⟩
    | _ => none
  | _ => none

/-- no block of cells is frozen that was not -/
def CF (w w' : World) : Prop := ∀ (b : Nat) (C : Array Value) (T : TypeId) (fr : Nat × Nat), w'.heap[b]? = some (.cells C T fr) → fr = (0, 0) ∨ ∃ C' T', w.heap[b]? = some (.cells C' T' fr)
theorem CF.refl (w : World) : CF w w := fun _ C T _ h => .inr ⟨C, T, h⟩
theorem CF.trans {w w1 w2 : World} (h : CF w w1) (k : CF w1 w2) : CF w w2 := fun b C T fr hb => by
  rcases k b C T fr hb with e | ⟨C', T', e⟩
  · exact .inl e
  · exact h b C' T' fr e
/-- blocks are as they were, or no cells, or free ones -/
theorem CF.of {w w' : World} (h : ∀ (b : Nat) (C : Array Value) (T : TypeId) (fr : Nat × Nat), w'.heap[b]? = some (Obj.cells C T fr) → fr ≠ (0, 0) → w'.heap[b]? = w.heap[b]?) : CF w w' := fun b C T fr hb => by
  by_cases e : fr = (0, 0)
  · exact .inl e
  · exact .inr ⟨C, T, (h b C T fr hb e) ▸ hb⟩
/-- blocks of cells from a number on are free -/
def NF (b0 : Nat) (w : World) : Prop := b0 ≤ w.heap.size ∧ ∀ (b : Nat) (C : Array Value) (T : TypeId) (fr : Nat × Nat), b0 ≤ b → w.heap[b]? = some (.cells C T fr) → fr = (0, 0)
theorem NF.step {b0 : Nat} {w w' : World} (h : NF b0 w) (c : CF w w') (hs : w.heap.size ≤ w'.heap.size) : NF b0 w' := ⟨Nat.le_trans h.1 hs, fun b C T fr hb hc => by
  rcases c b C T fr hc with e | ⟨C', T', e⟩
  · exact e
  · exact h.2 b C' T' fr hb e⟩
theorem NF.start (w : World) : NF w.heap.size w := ⟨Nat.le_refl _, fun b C T fr hb hc => by
  have := (Array.getElem?_eq_some_iff.1 hc).1
  omega⟩

/-- what a function comes to that neither writes what was there nor keeps it: 'sh': what it hands back may share memory with what it took -/
def pfun (P : Program) (f : FuncId) : Bool :=
  match P.funcs[f]? with
  | some fn => fn.body.isSome && !(fn.name == "runtime.NumGoroutine")
  | none => false

def APure (P : Program) (sh : Bool) (f : FuncId) (args : List PV) (r : PV) : Prop :=
  pfun P f = true ∧ ∀ (I : Nat → Prop) (w : World) (vals : Array Value), (∀ b, I b → b < w.heap.size) → REs I w args vals.toList →
    Calls P f vals w fun e w' => ∃ v J, e = .returned v ∧ (∀ b, J b → b < w'.heap.size ∧ (w.heap.size ≤ b ∨ (sh = true ∧ I b))) ∧ R J w' r [v] ∧ Below w.heap.size w w' ∧ CF w w'

end Go.Abs

namespace Go.Abs
open Go Go.RowKit

def ABlk.opn : ABlk → Bool
  | .var _ => true
  | .list _ _ _ f _ => !f
  | .loop .. => true
  | .frame _ => false
  | .rvar _ => false

def ownB (g : Gh) (id : Nat) : ABlk → Option Nat
  | .var _ => some (g.blk id)
  | .list _ _ xs _ _ => (g.hdr id xs.length).ownBlock
  | .loop .. => some (g.blk id)
  | .frame _ => none
  | .rvar _ => none

/-- the blocks that the function may write -/
def Owned (g : Gh) (h : Heap) (b : Nat) : Prop := ∃ id x, hlook h id = some x ∧ x.opn = true ∧ ownB g id x = some b

/-- a list's elements -/
def RC (I : Nat → Prop) (w : World) (sz : Nat) : List (List PV) → List Value → Prop
  | [], vs => vs = []
  | e :: es, vs => ∃ v1 v2, vs = v1 ++ v2 ∧ v1.length = sz ∧ Rs I w e v1 ∧ RC I w sz es v2

/-- those of I; new ones alone, if 'fl' -/
def If (I : Nat → Prop) (g : Gh) (fl : Bool) : Nat → Prop := fun b => I b ∧ (fl = true → g.b0 ≤ b)

def BOk (I : Nat → Prop) (g : Gh) (w : World) (id : Nat) : ABlk → Prop
  | .var cells => ∃ C T, w.heap[g.blk id]? = some (.cells C T (0, 0)) ∧ RAs I g w cells C.toList ∧ ¬ I (g.blk id)
  | .list e sz xs fro fl => ∃ vals, w.ownsRow 0 e sz (g.hdr id xs.length) xs.length vals ∧ RC (If I g fl) w sz xs vals ∧ (∀ k, (g.hdr id xs.length).ownBlock = some k → (I k ↔ fro = true) ∧ g.b0 ≤ k) ∧ ∀ v ∈ vals, v.oneCell' = true
  | .loop st pe n env params assign body => (∃ fn d, w.heap[g.blk id]? = some (.loop { state := st, pending := pe, fn, tmps := (g.frm id).1, params, assign, body, defers := d })) ∧ ((g.frm id).1.size = n ∧ g.blk id = (g.frm id).2) ∧ (∀ t, RA I g w (look env t) [(g.frm id).1.getD t undef]) ∧ ¬ I (g.blk id)
  | .frame env => ∀ t, RA I g w (look env t) [(g.frm id).1.getD t undef]
  | .rvar cells => ∃ us, At1 w ⟨g.blk id, 0, none⟩ us ∧ Rs I w cells us ∧ I (g.blk id)

def ABlk.on (D : Nat → Nat → Prop) (id : Nat) : ABlk → Prop
  | .var cells => D id 0 ∧ AV.ons D cells
  | .list _ _ xs _ _ => D id xs.length ∧ ∀ m, D id m → m ≤ xs.length
  | .loop _ _ _ env _ _ _ => D id 0 ∧ ∀ t, (look env t).on D
  | .frame env => D id 0 ∧ ∀ t, (look env t).on D
  | .rvar _ => D id 0

structure HOk (D : Nat → Nat → Prop) (I : Nat → Prop) (g : Gh) (w : World) (h : Heap) : Prop where
  blk : ∀ id x, hlook h id = some x → BOk I g w id x
  sep : ∀ id id' x x' k, id ≠ id' → hlook h id = some x → hlook h id' = some x' → ownB g id x = some k → ownB g id' x' ≠ some k
  dom : ∀ id x, hlook h id = some x → x.on D id
  new : NF g.b0 w

structure StOk (D : Nat → Nat → Prop) (I : Nat → Prop) (g : Gh) (w : World) (a : Act) (s : St) : Prop where
  env : ∀ t, RA I g w (look s.env t) [a.tmps.getD t undef]
  on : ∀ t, (look s.env t).on D
  heap : HOk D I g w s.heap
  small : ∀ b, I b → b < w.heap.size

/-- what a step does to memory: blocks that are not the function's own stay -/
structure Fr (I O : Nat → Prop) (w : World) (I' O' : Nat → Prop) (w' : World) : Prop where
  below : Below 0 w w'
  same : ∀ b, b < w.heap.size → ¬ O b → w'.heap[b]? = w.heap[b]?
  own : ∀ b, O' b → O b ∨ w.heap.size ≤ b
  inew : ∀ b, I' b → I b ∨ O b ∨ w.heap.size ≤ b
  isub : ∀ b, I b → I' b
  cf : CF w w'

theorem Fr.refl (I O : Nat → Prop) (w : World) : Fr I O w I O w := ⟨Below.refl _ _, fun _ _ _ => rfl, fun _ h => .inl h, fun _ h => .inl h, fun _ h => h, CF.refl _⟩

theorem Fr.trans {I O I1 O1 I2 O2 : Nat → Prop} {w w1 w2 : World} (h : Fr I O w I1 O1 w1) (k : Fr I1 O1 w1 I2 O2 w2) : Fr I O w I2 O2 w2 := by
  have hs := h.below.size
  refine ⟨h.below.trans k.below, fun b hb ho => ?_, fun b hb => ?_, fun b hb => ?_, fun b hb => k.isub b (h.isub b hb), h.cf.trans k.cf⟩
  · exact (k.same b (by omega) fun h1 => (h.own b h1).elim ho (by omega)).trans (h.same b hb ho)
  · rcases k.own b hb with h1 | h1
    · exact h.own b h1
    · exact .inr (by omega)
  · rcases k.inew b hb with h1 | h1 | h1
    · exact h.inew b h1
    · rcases h.own b h1 with h2 | h2
      · exact .inr (.inl h2)
      · exact .inr (.inr h2)
    · exact .inr (.inr (by omega))

structure Tr (D : Nat → Nat → Prop) (I : Nat → Prop) (g : Gh) (w : World) (h : Heap) (D' : Nat → Nat → Prop) (I' : Nat → Prop) (g' : Gh) (w' : World) (h' : Heap) : Prop where
  fr : Fr I (Owned g h) w I' (Owned g' h') w'
  gs : Gh.same D g g'
  gk : Gh.kp g g'
  dd : ∀ id m, D id m → D' id m
  heap : HOk D' I' g' w' h'
  small : ∀ b, I' b → b < w'.heap.size

theorem Gh.same.refl (D : Nat → Nat → Prop) (g : Gh) : Gh.same D g g := fun _ _ _ => ⟨rfl, rfl⟩
theorem Gh.same.trans {D D1 : Nat → Nat → Prop} {g g1 g2 : Gh} (h : Gh.same D g g1) (k : Gh.same D1 g1 g2) (dd : ∀ id m, D id m → D1 id m) : Gh.same D g g2 :=
  fun id m hd => ⟨(k id m (dd id m hd)).1.trans (h id m hd).1, (k id m (dd id m hd)).2.trans (h id m hd).2⟩

theorem Tr.trans {D I g w h D1 I1 g1 w1 h1 D2 I2 g2 w2 h2} (a : Tr D I g w h D1 I1 g1 w1 h1) (b : Tr D1 I1 g1 w1 h1 D2 I2 g2 w2 h2) : Tr D I g w h D2 I2 g2 w2 h2 :=
  ⟨a.fr.trans b.fr, a.gs.trans b.gs a.dd, a.gk.trans b.gk, fun id m hd => b.dd id m (a.dd id m hd), b.heap, b.small⟩

/-- an own block is none of I's -/
theorem HOk.own_not {D I g w h} (ok : HOk D I g w h) {b : Nat} (ho : Owned g h b) : ¬ I b := by
  obtain ⟨id, x, hx, hop, hb⟩ := ho
  have := ok.blk id x hx
  cases x with
  | var cells =>
    simp only [ownB, Option.some.injEq] at hb
    subst hb
    obtain ⟨_, _, _, _, hn⟩ := this
    exact hn
  | list e sz xs fro fl =>
    obtain ⟨_, _, _, hk, _⟩ := this
    intro hi
    have := (hk b hb).1.1 hi
    simp [ABlk.opn, this] at hop
  | loop st pe n0 env ps x y =>
    simp only [ownB, Option.some.injEq] at hb
    subst hb
    exact this.2.2.2
  | frame env => simp [ABlk.opn] at hop
  | rvar cells => simp [ABlk.opn] at hop

theorem Fr.sameOn {D I g w h I' O' w'} (ok : HOk D I g w h) (small : ∀ b, I b → b < w.heap.size) (f : Fr I (Owned g h) w I' O' w') : SameOn I w w' :=
  fun b hb => f.same b (small b hb) fun ho => ok.own_not ho hb

theorem Tr.ra {D I g w h D' I' g' w' h'} (t : Tr D I g w h D' I' g' w' h') (ok : HOk D I g w h) (small : ∀ b, I b → b < w.heap.size) {c : AV} {vs : List Value} (hc : c.on D) (r : RA I g w c vs) : RA I' g' w' c vs :=
  RA.mono (t.fr.sameOn ok small) t.fr.isub t.gs c vs hc r

/-- a step of memory and a value: the state behind it -/
theorem StOk.step {D I g w a s D' I' g' w' h'} (ok : StOk D I g w a s) (t : Tr D I g w s.heap D' I' g' w' h') {d : Option Nat} {av : AV} {v : Value} {nx : Nat} (hd : ∀ x, d = some x → x < a.tmps.size)
    (hr : RA I' g' w' av [v]) (hon : av.on D') : StOk D' I' g' w' (a.put d v) ⟨put s.env d av, h', nx⟩ := by
  cases d with
  | none =>
    refine ⟨fun t' => ?_, fun t' => ?_, t.heap, t.small⟩
    · exact t.ra ok.heap ok.small (ok.on t') (ok.env t')
    · exact AV.on_mono t.dd _ (ok.on t')
  | some x =>
    have hx := hd x rfl
    refine ⟨fun t' => ?_, fun t' => ?_, t.heap, t.small⟩
    · simp only [put, look, Act.put]
      by_cases e : x = t'
      · subst e
        rw [if_pos rfl, Array.getD_eq_getD_getElem?, Array.getElem?_setIfInBounds_self_of_lt hx]
        exact hr
      · rw [if_neg e, Array.getD_eq_getD_getElem?, Array.getElem?_setIfInBounds_ne e, ← Array.getD_eq_getD_getElem?]
        exact t.ra ok.heap ok.small (ok.on t') (ok.env t')
    · simp only [put, look]
      by_cases e : x = t'
      · rw [if_pos e]; exact hon
      · rw [if_neg e]; exact AV.on_mono t.dd _ (ok.on t')

theorem HOk.mono {D D' I g w h} (ok : HOk D I g w h) (dd : ∀ id m, D id m → D' id m) (vers : ∀ id e sz xs fro fl m, hlook h id = some (.list e sz xs fro fl) → D' id m → m ≤ xs.length) : HOk D' I g w h := by
  refine ⟨ok.blk, ok.sep, fun id x hx => ?_, ok.new⟩
  have := ok.dom id x hx
  cases x with
  | var cells => exact ⟨dd _ _ this.1, AV.ons_mono dd _ this.2⟩
  | list e sz xs fro fl => exact ⟨dd _ _ this.1, fun m hm => vers id e sz xs fro fl m hx hm⟩
  | loop st pe n0 env ps x y => exact ⟨dd _ _ this.1, fun t => AV.on_mono dd _ (this.2 t)⟩
  | frame env => exact ⟨dd _ _ this.1, fun t => AV.on_mono dd _ (this.2 t)⟩
  | rvar cells => exact dd _ _ this

theorem StOk.mono {D D' I g w a s} (ok : StOk D I g w a s) (dd : ∀ id m, D id m → D' id m) (vers : ∀ id e sz xs fro fl m, hlook s.heap id = some (.list e sz xs fro fl) → D' id m → m ≤ xs.length) : StOk D' I g w a s :=
  ⟨ok.env, fun t => AV.on_mono dd _ (ok.on t), ok.heap.mono dd vers, ok.small⟩

/-- nothing turns -/
theorem Tr.refl {D I g w h} (ok : HOk D I g w h) (small : ∀ b, I b → b < w.heap.size) : Tr D I g w h D I g w h := ⟨Fr.refl _ _ _, Gh.same.refl _ _, Gh.kp.refl _, fun _ _ h => h, ok, small⟩

/-- the ids in use, and one more -/
def plus (D : Nat → Nat → Prop) (nid n : Nat) : Nat → Nat → Prop := fun id m => D id m ∨ (id = nid ∧ m = n)
theorem plus_sub {D : Nat → Nat → Prop} {nid n : Nat} : ∀ id m, D id m → plus D nid n id m := fun _ _ h => .inl h

theorem RC.mono {I I' : Nat → Prop} {w w' : World} (so : SameOn I w w') (isub : ∀ b, I b → I' b) {sz : Nat} : ∀ {xs : List (List PV)} {vals : List Value}, RC I w sz xs vals → RC I' w' sz xs vals
  | [], _, r => r
  | _ :: _, _, ⟨v1, v2, e, l, r1, r2⟩ => ⟨v1, v2, e, l, Rs.mono so isub _ _ r1, RC.mono so isub r2⟩

theorem BOk.mono {I I' : Nat → Prop} {g g' : Gh} {w w' : World} {D : Nat → Nat → Prop} {id : Nat} {x : ABlk} (hx : BOk I g w id x) (hon : x.on D id) (so : SameOn I w w') (isub : ∀ b, I b → I' b) (gs : Gh.same D g g') (gk : Gh.kp g g')
    (hb : ∀ b, ownB g id x = some b → w'.heap[b]? = w.heap[b]?) (hi : ∀ b, ownB g id x = some b → I' b → I b) : BOk I' g' w' id x := by
  cases x with
  | var cells =>
    obtain ⟨C, T, hC, hr, hn⟩ := hx
    have e := (gs id 0 hon.1).1
    refine ⟨C, T, ?_, RAs.mono so isub gs cells _ hon.2 hr, ?_⟩
    · rw [e, hb _ rfl]; exact hC
    · rw [e]; exact fun h => hn (hi _ rfl h)
  | list e sz xs fro fl =>
    obtain ⟨vals, ho, hr, hk, h1⟩ := hx
    have eh := (gs id xs.length hon.1).2
    refine ⟨vals, ?_, RC.mono (fun b hb => so b hb.1) (fun b hb => ⟨isub b hb.1, fun h => by rw [gk.2]; exact hb.2 h⟩) hr, ?_, h1⟩
    · rw [eh]
      refine ⟨ho.1, ?_⟩
      rcases ho.2 with hn | ⟨gb, cap, cur, hv, hbase, hg, rest⟩
      · exact .inl hn
      · refine .inr ⟨gb, cap, cur, hv, hbase, ?_, rest⟩
        rw [hb gb (by simp [ownB, hv, Value.ownBlock])]; exact hg
    · rw [eh, gk.2]
      intro k hk'
      refine ⟨⟨fun h => (hk k hk').1.1 (hi k hk' h), fun h => isub _ ((hk k hk').1.2 h)⟩, (hk k hk').2⟩
  | loop st pe n0 env ps x y =>
    obtain ⟨⟨fn, d, hC⟩, hsz, hr, hn⟩ := hx
    have e := (gs id 0 hon.1).1
    refine ⟨⟨fn, d, ?_⟩, by rw [gk.1, e]; exact hsz, fun t => ?_, ?_⟩
    · rw [e, hb _ rfl, gk.1]; exact hC
    · rw [gk.1]; exact RA.mono so isub gs _ _ (hon.2 t) (hr t)
    · rw [e]; exact fun h => hn (hi _ rfl h)
  | frame env =>
    intro t
    rw [gk.1]; exact RA.mono so isub gs _ _ (hon.2 t) (hx t)
  | rvar cells =>
    obtain ⟨us, ha, hr, hi⟩ := hx
    have e := (gs id 0 hon).1
    exact ⟨us, by rw [e]; exact ha.mono so hi, Rs.mono so isub _ _ hr, by rw [e]; exact isub _ hi⟩

/-- an own block exists -/
theorem HOk.own_lt {D I g w h} (ok : HOk D I g w h) {id : Nat} {x : ABlk} (hx : hlook h id = some x) {b : Nat} (hb : ownB g id x = some b) : b < w.heap.size := by
  have := ok.blk id x hx
  cases x with
  | var cells =>
    simp only [ownB, Option.some.injEq] at hb
    subst hb
    obtain ⟨C, T, hC, _⟩ := this
    exact (Array.getElem?_eq_some_iff.1 hC).1
  | list e sz xs fro fl =>
    obtain ⟨vals, ho, _⟩ := this
    exact (ho.lt b hb).2
  | loop st pe n0 env ps x y =>
    simp only [ownB, Option.some.injEq] at hb
    subst hb
    obtain ⟨⟨_, _, hC⟩, _⟩ := this
    exact (Array.getElem?_eq_some_iff.1 hC).1
  | frame env => simp [ownB] at hb
  | rvar cells => simp [ownB] at hb

/-- the ghost with a new block under a new id -/
def Gh.withBlk (g : Gh) (id b : Nat) : Gh := { g with blk := fun i => if i = id then b else g.blk i }
def Gh.withHdr (g : Gh) (id n : Nat) (v : Value) : Gh := { g with hdr := fun i m => if i = id ∧ m = n then v else g.hdr i m }

theorem Gh.withBlk_same {D : Nat → Nat → Prop} {g : Gh} {id b : Nat} (h : ∀ m, ¬ D id m) : Gh.same D g (g.withBlk id b) :=
  fun i m hd => ⟨by simp only [Gh.withBlk]; rw [if_neg (fun e : i = id => h m (e ▸ hd))], rfl⟩
theorem Gh.withHdr_same {D : Nat → Nat → Prop} {g : Gh} {id n : Nat} {v : Value} (h : ¬ D id n) : Gh.same D g (g.withHdr id n v) :=
  fun i m hd => ⟨rfl, by simp only [Gh.withHdr]; rw [if_neg (fun e : i = id ∧ m = n => h (by rw [← e.1, ← e.2]; exact hd))]⟩

theorem ownB_same {D : Nat → Nat → Prop} {g g' : Gh} (gs : Gh.same D g g') {id : Nat} {x : ABlk} (hon : x.on D id) : ownB g' id x = ownB g id x := by
  cases x with
  | var cells => simp only [ownB, (gs id 0 hon.1).1]
  | list e sz xs fro fl => simp only [ownB, (gs id xs.length hon.1).2]
  | loop st pe n0 env ps x y => simp only [ownB, (gs id 0 hon.1).1]
  | frame env => rfl
  | rvar cells => rfl

/-- a new block under a new id -/
theorem Tr.new {D I g w h} (ok : HOk D I g w h) (small : ∀ b, I b → b < w.heap.size) {nid n : Nat} (hn : ∀ m, ¬ D nid m) {g' : Gh} {w' : World} {x : ABlk}
    (hw : Below 0 w w') (hcf : CF w w') (hs : ∀ b, b < w.heap.size → w'.heap[b]? = w.heap[b]?) (gs : Gh.same D g g') (gk : Gh.kp g g') (hx : BOk I g' w' nid x) (hon : x.on (plus D nid n) nid)
    (hnew : ∀ b, ownB g' nid x = some b → w.heap.size ≤ b) : Tr D I g w h (plus D nid n) I g' w' ((nid, x) :: h) := by
  have hdom : ∀ id y, hlook h id = some y → id ≠ nid := by
    intro id y hy e
    have := ok.dom id y hy
    cases y with
    | var cells => exact hn 0 (e ▸ this.1)
    | list a b c d f => exact hn _ (e ▸ this.1)
    | loop st pe n0 env ps x y => exact hn 0 (e ▸ this.1)
    | frame env => exact hn 0 (e ▸ this.1)
    | rvar cells => exact hn 0 (e ▸ this)
  have so : SameOn I w w' := fun b hb => hs b (small b hb)
  refine ⟨⟨hw, fun b hb _ => hs b hb, ?_, fun b hb => .inl hb, fun b hb => hb, hcf⟩, gs, gk, plus_sub, ⟨?_, ?_, ?_, by rw [gk.2]; exact ok.new.step hcf hw.size⟩, fun b hb => Nat.lt_of_lt_of_le (small b hb) hw.size⟩
  · rintro b ⟨id, y, hy, hop, hb⟩
    simp only [hlook] at hy
    split at hy
    · rename_i e
      subst e
      cases hy
      exact .inr (hnew b hb)
    · rename_i e
      rw [ownB_same gs (ok.dom id y hy)] at hb
      exact .inl ⟨id, y, hy, hop, hb⟩
  · intro id y hy
    simp only [hlook] at hy
    split at hy
    · rename_i e; subst e; cases hy; exact hx
    · exact (ok.blk id y hy).mono (ok.dom id y hy) so (fun _ h => h) gs gk (fun b hb => hs b (ok.own_lt hy hb)) (fun _ _ h => h)
  · intro id id' y y' k hne hy hy' hk hk'
    simp only [hlook] at hy hy'
    split at hy
    · rename_i e
      subst e; cases hy
      rw [if_neg hne] at hy'
      rw [ownB_same gs (ok.dom id' y' hy')] at hk'
      have h1 := ok.own_lt hy' hk'
      have h2 := hnew k hk
      omega
    · split at hy'
      · rename_i e
        subst e; cases hy'
        rw [ownB_same gs (ok.dom id y hy)] at hk
        have h1 := ok.own_lt hy hk
        have h2 := hnew k hk'
        omega
      · rw [ownB_same gs (ok.dom id y hy)] at hk
        rw [ownB_same gs (ok.dom id' y' hy')] at hk'
        exact ok.sep id id' y y' k hne hy hy' hk hk'
  · intro id y hy
    simp only [hlook] at hy
    split at hy
    · rename_i e; subst e; cases hy; exact hon
    · have := ok.dom id y hy
      have hne := hdom id y hy
      cases y with
      | var cells => exact ⟨.inl this.1, AV.ons_mono plus_sub _ this.2⟩
      | list a b c d f =>
        refine ⟨.inl this.1, fun m hm => ?_⟩
        rcases hm with hm | ⟨e, _⟩
        · exact this.2 m hm
        · exact absurd e hne
      | loop st pe n0 env ps x y => exact ⟨.inl this.1, fun t => AV.on_mono plus_sub _ (this.2 t)⟩
      | frame env => exact ⟨.inl this.1, fun t => AV.on_mono plus_sub _ (this.2 t)⟩
      | rvar cells => exact .inl this

theorem hlook_hset {h : Heap} {id : Nat} {x y : ABlk} (hx : hlook h id = some x) (j : Nat) : hlook (hset h id y) j = if id = j then some y else hlook h j := by
  induction h with
  | nil => simp [hlook] at hx
  | cons p r ih =>
    obtain ⟨i, b⟩ := p
    simp only [hlook] at hx
    by_cases e : i = id
    · subst e
      simp only [hset, if_true, hlook]
      by_cases e2 : i = j <;> simp [e2]
    · rw [if_neg e] at hx
      simp only [hset, if_neg e, hlook, ih hx]
      by_cases e2 : i = j
      · subst e2; simp [Ne.symm e]
      · simp [e2]

/-- an own block turned in its place: the id stays, its block may be another one -/
theorem Tr.turn {D I g w h} (ok : HOk D I g w h) (small : ∀ b, I b → b < w.heap.size) {id : Nat} {x y : ABlk} (hx : hlook h id = some x) (hop : x.opn = true) {D' : Nat → Nat → Prop} {g' : Gh} {w' : World}
    (hw : Below 0 w w') (hcf : CF w w') (hs : ∀ b, b < w.heap.size → ownB g id x ≠ some b → w'.heap[b]? = w.heap[b]?) (gs : Gh.same D g g') (gk : Gh.kp g g') (dd : ∀ i m, D i m → D' i m)
    (hy : BOk I g' w' id y) (hon : y.on D' id) (hD : ∀ i m, i ≠ id → D' i m → D i m)
    (hnew : ∀ b, ownB g' id y = some b → ownB g id x = some b ∨ w.heap.size ≤ b) : Tr D I g w h D' I g' w' (hset h id y) := by
  have so : SameOn I w w' := fun b hb => hs b (small b hb) fun e => ok.own_not ⟨id, x, hx, hop, e⟩ hb
  refine ⟨⟨hw, fun b hb ho => hs b hb fun e => ho ⟨id, x, hx, hop, e⟩, ?_, fun b hb => .inl hb, fun b hb => hb, hcf⟩, gs, gk, dd, ⟨?_, ?_, ?_, by rw [gk.2]; exact ok.new.step hcf hw.size⟩, fun b hb => Nat.lt_of_lt_of_le (small b hb) hw.size⟩
  · rintro b ⟨i, z, hz, hzo, hb⟩
    rw [hlook_hset hx] at hz
    split at hz
    · rename_i e; subst e; cases hz
      rcases hnew b hb with h1 | h1
      · exact .inl ⟨id, x, hx, hop, h1⟩
      · exact .inr h1
    · rw [ownB_same gs (ok.dom i z hz)] at hb
      exact .inl ⟨i, z, hz, hzo, hb⟩
  · intro i z hz
    rw [hlook_hset hx] at hz
    split at hz
    · rename_i e; subst e; cases hz; exact hy
    · rename_i e
      refine (ok.blk i z hz).mono (ok.dom i z hz) so (fun _ h => h) gs gk (fun b hb => hs b (ok.own_lt hz hb) fun e2 => ?_) (fun _ _ h => h)
      exact ok.sep id i x z b e hx hz e2 hb
  · intro i i' z z' k hne hz hz' hk hk'
    rw [hlook_hset hx] at hz hz'
    split at hz
    · rename_i e; subst e; cases hz
      rw [if_neg hne] at hz'
      rw [ownB_same gs (ok.dom i' z' hz')] at hk'
      rcases hnew k hk with h1 | h1
      · exact ok.sep id i' x z' k hne hx hz' h1 hk'
      · have := ok.own_lt hz' hk'; omega
    · split at hz'
      · rename_i e; subst e; cases hz'
        rw [ownB_same gs (ok.dom i z hz)] at hk
        rcases hnew k hk' with h1 | h1
        · exact ok.sep i id z x k hne hz hx hk h1
        · have := ok.own_lt hz hk; omega
      · rw [ownB_same gs (ok.dom i z hz)] at hk
        rw [ownB_same gs (ok.dom i' z' hz')] at hk'
        exact ok.sep i i' z z' k hne hz hz' hk hk'
  · intro i z hz
    rw [hlook_hset hx] at hz
    split at hz
    · rename_i e; subst e; cases hz; exact hon
    · rename_i e
      have := ok.dom i z hz
      cases z with
      | var cells => exact ⟨dd _ _ this.1, AV.ons_mono dd _ this.2⟩
      | list a b c d f => exact ⟨dd _ _ this.1, fun m hm => this.2 m (hD i m (Ne.symm e) hm)⟩
      | loop st pe n0 env ps x y => exact ⟨dd _ _ this.1, fun t => AV.on_mono dd _ (this.2 t)⟩
      | frame env => exact ⟨dd _ _ this.1, fun t => AV.on_mono dd _ (this.2 t)⟩
      | rvar cells => exact dd _ _ this

/-- a list is frozen: its block becomes one of those that stay -/
theorem Tr.freeze {D I g w h} (ok : HOk D I g w h) (small : ∀ b, I b → b < w.heap.size) {id : Nat} {e : TypeId} {sz : Nat} {xs : List (List PV)} {fro fl : Bool} (hx : hlook h id = some (.list e sz xs fro fl)) :
    ∃ I', Tr D I g w h D I' g w (hset h id (.list e sz xs true fl)) ∧ ∀ k, (g.hdr id xs.length).ownBlock = some k → I' k := by
  refine ⟨fun b => I b ∨ (g.hdr id xs.length).ownBlock = some b, ?_, fun k hk => .inr hk⟩
  have so : SameOn I w w := fun _ _ => rfl
  have isub : ∀ b, I b → (I b ∨ (g.hdr id xs.length).ownBlock = some b) := fun _ h => .inl h
  have hb := ok.blk id _ hx
  obtain ⟨vals, ho, hr, hk, h1⟩ := hb
  refine ⟨⟨Below.refl _ _, fun _ _ _ => rfl, ?_, ?_, isub, CF.refl _⟩, Gh.same.refl _ _, Gh.kp.refl _, fun _ _ h => h, ⟨?_, ?_, ?_, ok.new⟩, ?_⟩
  · rintro b ⟨i, z, hz, hzo, hb⟩
    rw [hlook_hset hx] at hz
    split at hz
    · cases hz; simp [ABlk.opn] at hzo
    · exact .inl ⟨i, z, hz, hzo, hb⟩
  · intro b hb
    rcases hb with hb | hb
    · exact .inl hb
    · by_cases hf : fro = true
      · exact .inl ((hk b hb).1.2 hf)
      · exact .inr (.inl ⟨id, _, hx, by simp [ABlk.opn, hf], hb⟩)
  · intro i z hz
    rw [hlook_hset hx] at hz
    split at hz
    · rename_i e; subst e; cases hz
      exact ⟨vals, ho, RC.mono (fun _ _ => rfl) (fun b hb => ⟨isub b hb.1, hb.2⟩) hr, fun k hk' => ⟨⟨fun _ => rfl, fun _ => .inr hk'⟩, (hk k hk').2⟩, h1⟩
    · rename_i ne
      refine (ok.blk i z hz).mono (ok.dom i z hz) so isub (Gh.same.refl _ _) (Gh.kp.refl _) (fun _ _ => rfl) (fun b hb hi => ?_)
      rcases hi with hi | hi
      · exact hi
      · exact absurd hb (ok.sep id i _ z b ne hx hz (by simpa [ownB] using hi))
  · intro i i' z z' k hne hz hz' hk hk'
    rw [hlook_hset hx] at hz hz'
    split at hz
    · rename_i e; subst e; cases hz
      rw [if_neg hne] at hz'
      exact ok.sep id i' _ z' k hne hx hz' (by simpa [ownB] using hk) hk'
    · split at hz'
      · rename_i e; subst e; cases hz'
        exact ok.sep i id z _ k hne hz hx hk (by simpa [ownB] using hk')
      · exact ok.sep i i' z z' k hne hz hz' hk hk'
  · intro i z hz
    rw [hlook_hset hx] at hz
    split at hz
    · rename_i e; subst e; cases hz
      have := ok.dom id _ hx
      exact ⟨this.1, this.2⟩
    · exact ok.dom i z hz
  · intro b hb
    rcases hb with hb | hb
    · exact small b hb
    · exact (ho.lt b hb).2

/-! ### an own list, read as a slice that stays -/
theorem RC.get {I : Nat → Prop} {w : World} {sz : Nat} : ∀ {xs : List (List PV)} {vals : List Value} {i : Nat} {e : List PV}, RC I w sz xs vals → xs[i]? = some e →
    ∃ us, (vals.drop (i * sz)).take sz = us ∧ us.length = sz ∧ Rs I w e us
  | [], _, _, _, _, hi => by simp at hi
  | x :: xs, vals, 0, e, h, hi => by
    obtain ⟨v1, v2, rfl, l, r, _⟩ := h
    simp at hi; subst hi
    exact ⟨v1, by simp [← l], l, r⟩
  | x :: xs, vals, i + 1, e, h, hi => by
    obtain ⟨v1, v2, rfl, l, _, r⟩ := h
    simp at hi
    obtain ⟨us, h1, h2, h3⟩ := RC.get r hi
    refine ⟨us, ?_, h2, h3⟩
    rw [show (i + 1) * sz = v1.length + i * sz from by rw [Nat.add_mul, l]; omega, ← h1, List.drop_append]
    rw [List.drop_eq_nil_of_le (by omega)]
    simp

theorem RC.length {I : Nat → Prop} {w : World} {sz : Nat} : ∀ {xs : List (List PV)} {vals : List Value}, RC I w sz xs vals → vals.length = xs.length * sz
  | [], _, h => by simp only [RC] at h; subst h; simp
  | x :: xs, _, ⟨v1, v2, e, l, _, r⟩ => by subst e; simp [l, RC.length r, Nat.add_mul]; omega

theorem RC.append {I : Nat → Prop} {w : World} {sz : Nat} : ∀ {xs ys : List (List PV)} {vs us : List Value}, RC I w sz xs vs → RC I w sz ys us → RC I w sz (xs ++ ys) (vs ++ us)
  | [], _, _, _, h, k => by simp only [RC] at h; subst h; simpa using k
  | x :: xs, _, _, _, ⟨v1, v2, e, l, r, r'⟩, k => by subst e; exact ⟨v1, _, by simp, l, r, RC.append r' k⟩

/-- what lies at an own row's cells -/
theorem ownsRow_at {w : World} {base : Nat} {e : TypeId} {size : Nat} {v : Value} {n : Nat} {vals : List Value} (h : w.ownsRow base e size v n vals) {ad : Addr} {m c : Nat} (hv : v = .slice (some ad) m c) :
    At w ad vals ∧ ad = ⟨ad.block, 0, none⟩ := by
  rcases h.2 with ⟨e1, _⟩ | ⟨gb, cap, cur, e1, _, hg, _⟩
  · rw [hv] at e1; cases e1
  · rw [hv] at e1
    cases e1
    exact ⟨h.cells (g := gb) (by simp [hv, Value.ownBlock]), rfl⟩

theorem At.sub {w : World} {ad : Addr} {vals : List Value} (h : At w ad vals) (k m : Nat) : At w (ad.add k) ((vals.drop k).take m) := by
  intro j v hj
  rw [add_add]
  refine h (k + j) v ?_
  rw [List.getElem?_take] at hj
  split at hj
  · rwa [List.getElem?_drop] at hj
  · cases hj

/-- an own list reads as a list -/
theorem BOk.lstF {D I g w h} (ok : HOk D I g w h) {id : Nat} {e : TypeId} {sz : Nat} {xs : List (List PV)} {fro fl : Bool} (hx : hlook h id = some (.list e sz xs fro fl)) {I' : Nat → Prop} (isub : ∀ b, If I g fl b → I' b)
    (hI : ∀ k, (g.hdr id xs.length).ownBlock = some k → I' k) : R I' w (.lst sz xs) [g.hdr id xs.length] := by
  obtain ⟨vals, ho, hr, _, h1v⟩ := ok.blk id _ hx
  have hr' : RC I' w sz xs vals := RC.mono (fun _ _ => rfl) isub hr
  simp only [R]
  rcases ho.2 with ⟨e1, hn⟩ | ⟨gb, cap, cur, e1, hbase, hg, hle, _⟩
  · have hx0 : xs = [] := List.eq_nil_of_length_eq_zero hn
    subst hx0
    exact ⟨none, 0, by rw [e1]; rfl, Nat.le_refl _, by simp only [RLL]⟩
  · refine ⟨some ⟨gb, 0, none⟩, cap, by rw [e1], hle, RLL.of_get fun i el hi => ?_⟩
    obtain ⟨us, h1, h2, h3⟩ := hr'.get hi
    refine ⟨_, us, rfl, hI gb (by rw [e1]; rfl), h2, ⟨?_, fun v hv => h1v v ?_⟩, h3⟩
    · rw [Nat.zero_add, ← h1]
      exact (ownsRow_at ho e1).1.sub _ _
    · rw [← h1] at hv
      exact List.mem_of_mem_drop (List.mem_of_mem_take hv)

theorem BOk.lst {D I g w h} (ok : HOk D I g w h) {id : Nat} {e : TypeId} {sz : Nat} {xs : List (List PV)} {fro fl : Bool} (hx : hlook h id = some (.list e sz xs fro fl)) {I' : Nat → Prop} (isub : ∀ b, I b → I' b)
    (hI : ∀ k, (g.hdr id xs.length).ownBlock = some k → I' k) : R I' w (.lst sz xs) [g.hdr id xs.length] := BOk.lstF ok hx (fun b h => isub b h.1) hI
theorem HOk.lst' {D I g w h} (ok : HOk D I g w h) {id : Nat} {e : TypeId} {sz : Nat} {xs : List (List PV)} {fro fl : Bool} (hx : hlook h id = some (.list e sz xs fro fl)) {I' : Nat → Prop} (isub : ∀ b, I b → I' b)
    (hI : ∀ k, (g.hdr id xs.length).ownBlock = some k → I' k) : R I' w (.lst sz xs) [g.hdr id xs.length] := BOk.lst ok hx isub hI

/-- everything is of it -/
theorem on_all : ∀ (D : Nat → Nat → Prop) (_ : ∀ i m, D i m), (∀ (c : AV), c.on D) ∧ True := by
  intro D h
  refine ⟨fun c => ?_, trivial⟩
  have hs : (∀ c : AV, c.on D) := by
    intro c
    exact AV.rec (motive_1 := fun c => c.on D) (motive_2 := fun cs => AV.ons D cs) (fun _ => by simp only [AV.on]) (fun _ _ => by simp only [AV.on]; exact h _ _) (fun _ _ => by simp only [AV.on]; exact h _ _)
      (fun _ _ _ _ _ => by simp only [AV.on]; exact h _ _) (fun _ _ _ => by simp only [AV.on]; exact h _ _) (fun _ _ _ h1 h2 => by simp only [AV.on]; exact ⟨h1, h2⟩) (fun _ => by simp only [AV.on]; exact h _ _) (fun _ h1 => by simp only [AV.on]; exact h1)
      (fun _ h1 => by simp only [AV.on]; exact h1) (by simp only [AV.on]) (by simp only [AV.ons]) (fun _ _ h1 h2 => by simp only [AV.ons]; exact ⟨h1, h2⟩) c
  exact hs c

theorem ons_all (D : Nat → Nat → Prop) (h : ∀ i m, D i m) : ∀ (cs : List AV), AV.ons D cs
  | [] => by simp only [AV.ons]
  | c :: cs => by simp only [AV.ons]; exact ⟨(on_all D h).1 c, ons_all D h cs⟩

theorem RAs.mono' {I I' : Nat → Prop} {g : Gh} {w : World} (hI : ∀ b, I b → I' b) {cs : List AV} {vs : List Value} (r : RAs I g w cs vs) : RAs I' g w cs vs :=
  RAs.mono (D := fun _ _ => True) (fun _ _ => rfl) hI (Gh.same.refl _ _) cs vs (ons_all _ (fun _ _ => trivial) cs) r
theorem RAEs.mono' {I I' : Nat → Prop} {g : Gh} {w : World} (hI : ∀ b, I b → I' b) {cs : List AV} {vs : List Value} (r : RAEs I g w cs vs) : RAEs I' g w cs vs :=
  RAEs.mono (D := fun _ _ => True) (fun _ _ => rfl) hI (Gh.same.refl _ _) cs vs (ons_all _ (fun _ _ => trivial) cs) r
theorem RA.mono' {I I' : Nat → Prop} {g : Gh} {w : World} (hI : ∀ b, I b → I' b) {c : AV} {vs : List Value} (r : RA I g w c vs) : RA I' g w c vs :=
  RA.mono (D := fun _ _ => True) (fun _ _ => rfl) hI (Gh.same.refl _ _) c vs ((on_all _ (fun _ _ => trivial)).1 c) r

end Go.Abs

namespace Go.Abs
open Go Go.RowKit

section
variable {I : Nat → Prop} {g : Gh} {w : World}

theorem RAs.width : ∀ {cs : List AV} {vs : List Value}, RAs I g w cs vs → vs.length = sumW cs
  | [], _, h => by simp only [RAs] at h; subst h; rfl
  | c :: cs, _, h => by
    simp only [RAs] at h
    obtain ⟨v1, v2, rfl, h1, h2⟩ := h
    simp [sumW, h1.width, RAs.width h2]

theorem RAs.drop : ∀ {cs : List AV} {vs : List Value} {n : Nat} {ds : List AV}, RAs I g w cs vs → dropW cs n = some ds → n ≤ vs.length ∧ RAs I g w ds (vs.drop n)
  | cs, vs, 0, ds, h, e => by
    cases cs <;> simp [dropW] at e <;> subst e <;> exact ⟨Nat.zero_le _, by simpa using h⟩
  | [], _, n + 1, _, _, e => by simp [dropW] at e
  | c :: cs, vs, n + 1, ds, h, e => by
    simp only [dropW] at e
    split at e
    · rename_i hle
      simp only [RAs] at h
      obtain ⟨v1, v2, rfl, h1, h2⟩ := h
      have hw := h1.width
      obtain ⟨l, r⟩ := RAs.drop h2 e
      refine ⟨by simp; omega, ?_⟩
      rw [List.drop_append, List.drop_eq_nil_of_le (by omega), hw]
      simpa using r
    · cases e

theorem RAs.take : ∀ {cs : List AV} {vs : List Value} {n : Nat} {ds : List AV}, RAs I g w cs vs → takeW cs n = some ds → n ≤ vs.length ∧ RAs I g w ds (vs.take n)
  | cs, vs, 0, ds, h, e => by
    cases cs <;> simp [takeW] at e <;> subst e <;> exact ⟨Nat.zero_le _, by simp [RAs]⟩
  | [], _, n + 1, _, _, e => by simp [takeW] at e
  | c :: cs, vs, n + 1, ds, h, e => by
    simp only [takeW] at e
    split at e
    · rename_i hle
      simp only [RAs] at h
      obtain ⟨v1, v2, rfl, h1, h2⟩ := h
      have hw := h1.width
      simp only [Option.map_eq_some_iff] at e
      obtain ⟨ds', e', rfl⟩ := e
      obtain ⟨l, r⟩ := RAs.take h2 e'
      refine ⟨by simp; omega, ?_⟩
      simp only [RAs]
      refine ⟨v1, v2.take (n + 1 - awd c), ?_, h1, r⟩
      rw [List.take_append, List.take_of_length_le (by omega), hw]
    · cases e

theorem RAs.append : ∀ {cs ds : List AV} {vs us : List Value}, RAs I g w cs vs → RAs I g w ds us → RAs I g w (cs ++ ds) (vs ++ us)
  | [], _, _, _, h, k => by simp only [RAs] at h; subst h; simpa using k
  | c :: cs, _, _, _, h, k => by
    simp only [RAs, List.cons_append] at h ⊢
    obtain ⟨v1, v2, rfl, h1, h2⟩ := h
    exact ⟨v1, _, by simp, h1, RAs.append h2 k⟩

theorem RAs.sub {cs ds : List AV} {vs : List Value} {off n : Nat} (h : RAs I g w cs vs) (e : Abs.sub cs off n = some ds) : off + n ≤ vs.length ∧ RAs I g w ds ((vs.drop off).take n) := by
  simp only [Abs.sub, Option.bind_eq_some_iff] at e
  obtain ⟨cs', e1, e2⟩ := e
  obtain ⟨l1, r1⟩ := h.drop e1
  obtain ⟨l2, r2⟩ := r1.take e2
  exact ⟨by simp at l2; omega, r2⟩

theorem RAs.putAt {cs news cs' : List AV} {vs us : List Value} {off : Nat} (h : RAs I g w cs vs) (k : RAs I g w news us) (e : Abs.putAt cs off news = some cs') :
    off + us.length ≤ vs.length ∧ RAs I g w cs' (vs.take off ++ us ++ vs.drop (off + us.length)) := by
  simp only [Abs.putAt] at e
  have hw := k.width
  split at e
  · rename_i a b ha hb
    cases e
    obtain ⟨l1, r1⟩ := h.take ha
    obtain ⟨l2, r2⟩ := h.drop hb
    rw [hw]
    exact ⟨l2, (r1.append k).append r2⟩
  · cases e

/-- the cells of a value -/
theorem cellsOf_rep {c : AV} {v : Value} (h : RA I g w c [v]) (hu : c ≠ .undef) : RAs I g w (cellsOf c) v.cells.toList ∨ (∃ n xs, c = .p (.arr n xs)) := by
  cases c with
  | p c =>
    cases c with
    | agg cells =>
      simp only [RA, R] at h
      obtain ⟨us, e, r⟩ := h
      cases e
      refine .inl ?_
      simp only [cellsOf, Value.cells]
      clear hu
      generalize us.toList = vs at r
      induction cells generalizing vs with
      | nil => simpa [RAs, Rs] using r
      | cons c cs ih =>
        simp only [Rs] at r
        obtain ⟨v1, v2, rfl, r1, r2⟩ := r
        simp only [List.map_cons, RAs]
        exact ⟨v1, v2, rfl, r1, ih v2 r2⟩
    | arr n xs => exact .inr ⟨n, xs, rfl⟩
    | _ =>
      refine .inl ?_
      simp only [cellsOf, RAs]
      have hh := h
      simp only [RA, R] at hh
      refine ⟨[v], [], ?_, h, rfl⟩
      have : v.cells = #[v] := by
        first
        | (obtain ⟨_, e, _⟩ := hh; cases e; rfl)
        | (obtain ⟨_, _, e, _⟩ := hh; cases e; rfl)
        | (cases hh; rfl)
      rw [this]; rfl
  | agg cells =>
    simp only [RA] at h
    obtain ⟨us, e, r⟩ := h
    cases e
    exact .inl r
  | undef => exact absurd rfl hu
  | _ =>
    refine .inl ?_
    simp only [cellsOf, RAs]
    have hh := h
    simp only [RA] at hh
    refine ⟨[v], [], ?_, h, rfl⟩
    have : v.cells = #[v] := by
      first
      | (obtain ⟨_, _, _, _, e⟩ := hh; cases e; rfl)
      | (obtain ⟨_, _, e, _⟩ := hh; cases e; rfl)
      | (obtain ⟨_, e, _⟩ := hh; cases e; rfl)
      | (obtain ⟨_, e⟩ := hh; cases e; rfl)
      | (obtain ⟨_, _, e, _⟩ := hh; cases e; rfl)
      | (cases hh; rfl)
    rw [this]; rfl
end

/-! ### loads and stores, as the model runs them -/
def valOf (agg : Bool) (us : List Value) : Value := if agg then .agg us.toArray else us.getD 0 undef

section
variable {P : Program} {w : World}
theorem pty_run {t : TypeId} {agg : Bool} {n : Nat} (h : pty P t = some (agg, n)) : (isAgg t).run P w = .ok agg w ∧ (sizeOf t).run P w = .ok n w := by
  unfold pty at h
  cases hu : P.underlying t with
  | none => simp [hu] at h
  | some d =>
    cases hi : P.info? t with
    | none => cases d <;> simp [hu, hi] at h
    | some i =>
      have hs : (sizeOf t).run P w = .ok i.size w := by simp [sizeOf, typeInfo, hi]
      have ha : ∀ b, (match d with | .struct _ | .array _ _ => true | _ => false) = b → (isAgg t).run P w = .ok b w := by
        intro b hb
        unfold isAgg
        rw [Sem.run_bind, run_underlying hu w]
        cases d <;> simp_all
      cases d <;> simp [hu, hi] at h <;> obtain ⟨rfl, rfl⟩ := h <;> exact ⟨ha _ rfl, hs⟩

theorem psz_run {t : TypeId} {n : Nat} (h : psz P t = some n) : (sizeOf t).run P w = .ok n w := by
  unfold psz at h
  cases hi : P.info? t with
  | none => simp [hi] at h
  | some i => simp [hi] at h; subst h; simp [sizeOf, typeInfo, hi]

theorem run_loadVar' {t : TypeId} {agg : Bool} {n : Nat} (hp : pty P t = some (agg, n)) {ad : Addr} {us : List Value} (ha : At w ad us) (hl : us.length = n) (h1 : agg = false → n = 1) :
    (loadVar t ad).run P w = .ok (valOf agg us) w := by
  obtain ⟨h2, h3⟩ := pty_run (w := w) hp
  have hc : (loadCells ad n).run P w = .ok us.toArray w := by rw [← hl]; exact run_loadCells_list (P := P) w ad us ha
  unfold loadVar
  cases agg with
  | true => simp [Sem.run_bind, h2, h3, hc, valOf]
  | false =>
    have hn := h1 rfl
    subst hn
    obtain ⟨u, rfl⟩ := List.length_eq_one_iff.1 hl
    have hcell : w.cell? ad = some u := by
      have := ha 0 u rfl
      have e : ad.add 0 = ad := by simp [Addr.add]
      rwa [e] at this
    simp [Sem.run_bind, h2, load, Sem.run, hcell, valOf]

theorem run_storeVar' {t : TypeId} {n : Nat} (hp : psz P t = some n) {b off : Nat} {C : Array Value} {T : TypeId} (hg : w.heap[b]? = some (.cells C T (0, 0))) {v : Value} (hn : v.cells.toList.length = n)
    (hfit : off + n ≤ C.size) (h1 : ∀ u ∈ v.cells.toList, u.oneCell' = true) :
    (storeVar t ⟨b, off, none⟩ v).run P w = .ok () (w.setRow b (C.toList.take off ++ v.cells.toList ++ C.toList.drop (off + n)).toArray) := by
  have h3 := psz_run (w := w) hp
  have hs := run_storeCells_at P b off T v.cells.toList 0 C w hg (by omega) h1
  simp only [Nat.add_zero] at hs
  have hsz : v.cells.size = n := by simpa using hn
  simp [storeVar, Sem.run_bind, h3, hsz, hs, hn]
end

theorem ldres_rep {I : Nat → Prop} {g : Gh} {w : World} {agg : Bool} {cs : List AV} {v : AV} {us : List Value} (h : ldres agg cs = some v) (r : RAs I g w cs us) :
    (agg = false → us.length = 1) ∧ RA I g w v [valOf agg us] := by
  cases agg with
  | true =>
    simp only [ldres, Option.some.injEq] at h
    subst h
    exact ⟨by simp, by simp only [RA, valOf, if_true]; exact ⟨us.toArray, rfl, by simpa using r⟩⟩
  | false =>
    unfold ldres at h
    split at h
    · rename_i e; cases e
    · rename_i c
      split at h
      · cases h
      · rename_i hc
        cases h
        simp only [RAs] at r
        obtain ⟨v1, v2, rfl, r1, rfl⟩ := r
        have hw := r1.width
        have : awd v = 1 := by
          cases v with
          | p c => cases c <;> simp_all [awd, wd, isArr]
          | _ => rfl
        rw [this] at hw
        obtain ⟨u, rfl⟩ := List.length_eq_one_iff.1 hw
        exact ⟨fun _ => rfl, by simpa [valOf] using r1⟩
    · cases h

theorem ldres_on {D : Nat → Nat → Prop} {agg : Bool} {cs : List AV} {v : AV} (h : ldres agg cs = some v) (r : AV.ons D cs) : v.on D := by
  cases agg with
  | true => simp only [ldres, Option.some.injEq] at h; subst h; simpa only [AV.on] using r
  | false =>
    unfold ldres at h
    split at h
    · rename_i e; cases e
    · split at h
      · cases h
      · cases h; simp only [AV.ons] at r; exact r.1
    · cases h

theorem ons_drop {D : Nat → Nat → Prop} : ∀ {cs : List AV} {n : Nat} {ds : List AV}, AV.ons D cs → dropW cs n = some ds → AV.ons D ds
  | cs, 0, ds, h, e => by cases cs <;> simp [dropW] at e <;> subst e <;> exact h
  | [], _ + 1, _, _, e => by simp [dropW] at e
  | c :: cs, n + 1, ds, h, e => by
    simp only [dropW] at e
    simp only [AV.ons] at h
    split at e
    · exact ons_drop h.2 e
    · cases e
theorem ons_take {D : Nat → Nat → Prop} : ∀ {cs : List AV} {n : Nat} {ds : List AV}, AV.ons D cs → takeW cs n = some ds → AV.ons D ds
  | cs, 0, ds, h, e => by cases cs <;> simp [takeW] at e <;> subst e <;> simp only [AV.ons]
  | [], _ + 1, _, _, e => by simp [takeW] at e
  | c :: cs, n + 1, ds, h, e => by
    simp only [takeW] at e
    simp only [AV.ons] at h
    split at e
    · simp only [Option.map_eq_some_iff] at e
      obtain ⟨ds', e', rfl⟩ := e
      simp only [AV.ons]
      exact ⟨h.1, ons_take h.2 e'⟩
    · cases e
theorem ons_sub {D : Nat → Nat → Prop} {cs ds : List AV} {off n : Nat} (h : AV.ons D cs) (e : Abs.sub cs off n = some ds) : AV.ons D ds := by
  simp only [Abs.sub, Option.bind_eq_some_iff] at e
  obtain ⟨cs', e1, e2⟩ := e
  exact ons_take (ons_drop h e1) e2
theorem ons_append {D : Nat → Nat → Prop} : ∀ {cs ds : List AV}, AV.ons D cs → AV.ons D ds → AV.ons D (cs ++ ds)
  | [], _, _, k => k
  | c :: cs, _, h, k => by simp only [AV.ons, List.cons_append] at h ⊢; exact ⟨h.1, ons_append h.2 k⟩
theorem ons_putAt {D : Nat → Nat → Prop} {cs news cs' : List AV} {off : Nat} (h : AV.ons D cs) (k : AV.ons D news) (e : Abs.putAt cs off news = some cs') : AV.ons D cs' := by
  simp only [Abs.putAt] at e
  split at e
  · rename_i a b ha hb
    cases e
    exact ons_append (ons_append (ons_take h ha) k) (ons_drop h hb)
  · cases e
theorem ons_p {D : Nat → Nat → Prop} : ∀ (cs : List PV), AV.ons D (cs.map .p)
  | [] => by simp only [List.map_nil, AV.ons]
  | c :: cs => by simp only [List.map_cons, AV.ons, AV.on]; exact ⟨trivial, ons_p cs⟩
theorem ons_cellsOf {D : Nat → Nat → Prop} {c : AV} (h : c.on D) : AV.ons D (cellsOf c) := by
  unfold cellsOf
  split
  · simpa only [AV.on] using h
  · exact ons_p _
  · simp only [AV.ons]; exact ⟨h, trivial⟩

/-- a PV's cells are an AV's -/
theorem RAs_p {I : Nat → Prop} {g : Gh} {w : World} : ∀ {cs : List PV} {vs : List Value}, Rs I w cs vs → RAs I g w (cs.map .p) vs
  | [], _, h => by simpa only [List.map_nil, RAs, Rs] using h
  | c :: cs, _, h => by
    simp only [List.map_cons, RAs, Rs] at h ⊢
    obtain ⟨v1, v2, e, r1, r2⟩ := h
    exact ⟨v1, v2, e, by simpa only [RA] using r1, RAs_p r2⟩
theorem Rs_of_p {I : Nat → Prop} {g : Gh} {w : World} : ∀ {cs : List PV} {vs : List Value}, RAs I g w (cs.map .p) vs → Rs I w cs vs
  | [], _, h => by simpa only [List.map_nil, RAs, Rs] using h
  | c :: cs, _, h => by
    simp only [List.map_cons, RAs, Rs] at h ⊢
    obtain ⟨v1, v2, e, r1, r2⟩ := h
    exact ⟨v1, v2, e, by simpa only [RA] using r1, Rs_of_p r2⟩

/-- a variable's cells lie at its address -/
theorem var_at {w : World} {b off : Nat} {C : Array Value} {T : TypeId} {fr : Nat × Nat} (hg : w.heap[b]? = some (.cells C T fr)) (n : Nat) : At w ((⟨b, 0, none⟩ : Addr).add off) ((C.toList.drop off).take n) := by
  have h0 : At w ⟨b, 0, none⟩ C.toList := by
    intro j v hj
    rw [Addr.add_mid]
    simp only [Nat.zero_add, World.cell?, hg]
    simpa using hj
  exact h0.sub off n

theorem oneCell_of_rep {I : Nat → Prop} {g : Gh} {w : World} {c : AV} {vs : List Value} (h : RA I g w c vs) (h1 : oneW c = true) : ∀ u ∈ vs, u.oneCell' = true := by
  have honeP : ∀ (c : PV) (v : Value), onePV c = true → R I w c [v] → v.oneCell' = true := by
    intro c v h1 h
    cases c <;> simp only [R, onePV, Bool.false_eq_true, List.cons.injEq, and_true] at h h1
    all_goals (first | (subst h; rfl) | (obtain ⟨_, rfl, _⟩ := h; rfl) | (obtain ⟨_, _, rfl, _⟩ := h; rfl) | (obtain ⟨_, rfl⟩ := h; rfl))
  have hall : ∀ (xs : List PV) (vs : List Value), xs.all onePV = true → REs I w xs vs → ∀ u ∈ vs, u.oneCell' = true := by
    intro xs
    induction xs with
    | nil => intro vs _ h; simp only [REs] at h; subst h; simp
    | cons x xs ih =>
      intro vs ha h
      simp only [REs] at h
      obtain ⟨v, v2, rfl, h1, h2⟩ := h
      simp only [List.all_cons, Bool.and_eq_true] at ha
      intro u hu
      rcases List.mem_cons.1 hu with rfl | hu
      · exact honeP x _ ha.1 h1
      · exact ih v2 ha.2 h2 u hu
  cases c with
  | p c =>
    have hw := h.width
    cases c with
    | arr n xs =>
      simp only [RA, R] at h
      exact hall xs vs (by simpa [oneW] using h1) h.2.2
    | agg _ => simp [oneW, oneAV, onePV] at h1
    | tup _ => simp [oneW, oneAV, onePV] at h1
    | _ =>
      simp only [awd, wd] at hw
      obtain ⟨u, rfl⟩ := List.length_eq_one_iff.1 hw
      intro u' hu'
      simp at hu'; subst hu'
      exact honeP _ _ rfl (by simpa only [RA] using h)
  | undef => simp [oneW, oneAV] at h1
  | agg _ => simp [oneW, oneAV] at h1
  | tup _ => simp [oneW, oneAV] at h1
  | _ =>
    simp only [RA] at h
    first
    | (obtain ⟨_, _, _, _, rfl⟩ := h; simp [Value.oneCell'])
    | (obtain ⟨_, _, rfl, _⟩ := h; simp [Value.oneCell'])
    | (subst h; simp [Value.oneCell'])

theorem oneCells_of_rep {I : Nat → Prop} {g : Gh} {w : World} : ∀ {cs : List AV} {vs : List Value}, RAs I g w cs vs → cs.all oneW = true → ∀ u ∈ vs, u.oneCell' = true
  | [], _, h, _ => by simp only [RAs] at h; subst h; simp
  | c :: cs, _, h, h1 => by
    simp only [RAs] at h
    obtain ⟨v1, v2, rfl, r1, r2⟩ := h
    simp only [List.all_cons, Bool.and_eq_true] at h1
    intro u hu
    rcases List.mem_append.1 hu with hu | hu
    · exact oneCell_of_rep r1 h1.1 u hu
    · exact oneCells_of_rep r2 h1.2 u hu
mutual
theorem flat_rep {I J : Nat → Prop} {w : World} : ∀ (c : PV) {vs : List Value}, flat c = true → R I w c vs → R J w c vs
  | .bool _, _, _, r => by simpa only [R] using r
  | .int _ _, _, _, r => by simpa only [R] using r
  | .str _, _, _, r => by simpa only [R] using r
  | .nil, _, _, r => by simpa only [R] using r
  | .nilptr, _, _, r => by simpa only [R] using r
  | .nilf, _, _, r => by simpa only [R] using r
  | .niface, _, _, r => by simpa only [R] using r
  | .lst _ _, _, h, _ => by simp [flat] at h
  | .vptr _, _, h, _ => by simp [flat] at h
  | .iface _ _, _, h, _ => by simp [flat] at h
  | .arr n xs, vs, h, r => by
    simp only [flat] at h
    simp only [R] at r ⊢
    exact ⟨r.1, r.2.1, flats_reps xs h r.2.2⟩
  | .agg xs, vs, h, r => by
    simp only [flat] at h
    simp only [R] at r ⊢
    obtain ⟨us, e, r⟩ := r
    exact ⟨us, e, flats_rep xs h r⟩
  | .tup xs, vs, h, r => by
    simp only [flat] at h
    simp only [R] at r ⊢
    obtain ⟨us, e, r⟩ := r
    exact ⟨us, e, flats_reps xs h r⟩
theorem flats_rep {I J : Nat → Prop} {w : World} : ∀ (cs : List PV) {vs : List Value}, flats cs = true → Rs I w cs vs → Rs J w cs vs
  | [], _, _, r => by simpa only [Rs] using r
  | c :: cs, _, h, r => by
    simp only [flats, Bool.and_eq_true] at h
    simp only [Rs] at r ⊢
    obtain ⟨v1, v2, e, r1, r2⟩ := r
    exact ⟨v1, v2, e, flat_rep c h.1 r1, flats_rep cs h.2 r2⟩
theorem flats_reps {I J : Nat → Prop} {w : World} : ∀ (cs : List PV) {vs : List Value}, flats cs = true → REs I w cs vs → REs J w cs vs
  | [], _, _, r => by simpa only [REs] using r
  | c :: cs, _, h, r => by
    simp only [flats, Bool.and_eq_true] at h
    simp only [REs] at r ⊢
    obtain ⟨v1, v2, e, r1, r2⟩ := r
    exact ⟨v1, v2, e, flat_rep c h.1 r1, flats_reps cs h.2 r2⟩
end


theorem toPs_nil {I : Nat → Prop} {g : Gh} {w : World} : ∀ {cs : List AV} {ps : List PV} {vs : List Value}, toPs [] cs = some ps → RAs I g w cs vs → Rs I w ps vs
  | [], ps, vs, e, r => by simp only [toPs, Option.some.injEq] at e; subst e; simpa only [RAs, Rs] using r
  | c :: cs, ps, vs, e, r => by
    simp only [toPs, Option.bind_eq_some_iff, Option.map_eq_some_iff] at e
    obtain ⟨p, e1, ps', e2, rfl⟩ := e
    simp only [RAs] at r
    obtain ⟨v1, v2, rfl, r1, r2⟩ := r
    simp only [Rs]
    refine ⟨v1, v2, rfl, ?_, toPs_nil e2 r2⟩
    exact toP_nil c e1 r1
where
  toP_nil : ∀ (c : AV) {p : PV} {vs : List Value}, toP [] c = some p → RA I g w c vs → R I w p vs
  | .p c, p, vs, e, r => by simp only [toP, Option.some.injEq] at e; subst e; simpa only [RA] using r
  | .hs id n, p, vs, e, r => by simp [toP, hlook] at e
  | .ptr _ _, _, _, e, _ => by simp only [toP] at e; cases e
  | .eptr _ _ _ _ _, _, _, e, _ => by simp only [toP] at e; cases e
  | .aptr _ _ _, _, _, e, _ => by simp only [toP] at e; cases e
  | .fn _ _ _, _, _, e, _ => by simp only [toP] at e; cases e
  | .yld _, _, _, e, _ => by simp only [toP] at e; cases e
  | .undef, _, _, e, _ => by simp only [toP] at e; cases e
  | .agg cs, p, vs, e, r => by
    simp only [toP, Option.map_eq_some_iff] at e
    obtain ⟨ps, e, rfl⟩ := e
    simp only [RA] at r
    obtain ⟨us, rfl, r⟩ := r
    simp only [R]
    exact ⟨us, rfl, toPs_nil e r⟩
  | .tup cs, p, vs, e, r => by
    simp only [toP, Option.map_eq_some_iff] at e
    obtain ⟨ps, e, rfl⟩ := e
    simp only [RA] at r
    obtain ⟨us, rfl, r⟩ := r
    simp only [R]
    exact ⟨us, rfl, toPs_nils cs e r⟩
  toPs_nils : ∀ (cs : List AV) {ps : List PV} {vs : List Value}, toPs [] cs = some ps → RAEs I g w cs vs → REs I w ps vs
  | [], ps, vs, e, r => by simp only [toPs, Option.some.injEq] at e; subst e; simpa only [RAEs, REs] using r
  | c :: cs, ps, vs, e, r => by
    simp only [toPs, Option.bind_eq_some_iff, Option.map_eq_some_iff] at e
    obtain ⟨p, e1, ps', e2, rfl⟩ := e
    simp only [RAEs] at r
    obtain ⟨v1, v2, rfl, r1, r2⟩ := r
    simp only [REs]
    exact ⟨v1, v2, rfl, toP_nil c e1 r1, toPs_nils cs e2 r2⟩


theorem toPs_nil_eq : ∀ {cs : List AV} {ps : List PV}, toPs [] cs = some ps → cs.all oneW = true → cs = ps.map .p
  | [], _, h, _ => by simp only [toPs, Option.some.injEq] at h; subst h; rfl
  | c :: cs, _, h, ho => by
    simp only [toPs, Option.bind_eq_some_iff, Option.map_eq_some_iff] at h
    obtain ⟨p, h1, ps, h2, rfl⟩ := h
    simp only [List.all_cons, Bool.and_eq_true] at ho
    have : c = .p p := by
      cases c <;> simp_all [toP, hlook, oneW, oneAV]
    rw [this, toPs_nil_eq h2 ho.2]; rfl

theorem Rs.mono0 {I I' : Nat → Prop} {w : World} (h : ∀ b, I b → I' b) {cs : List PV} {vs : List Value} (r : Rs I w cs vs) : Rs I' w cs vs := Rs.mono (fun _ _ => rfl) h cs vs r

end Go.Abs

namespace Go.Abs
open Go Go.RowKit

section
variable {P : Program} {D : Nat → Nat → Prop} {I : Nat → Prop} {g : Gh} {w : World} {h : Heap}

theorem put_one (A v1 v2 : List Value) (i : Nat) (x : Value) (hi : i < v1.length) :
    A ++ v1.set i x ++ (A ++ (v1 ++ v2)).drop (A.length + v1.length) = (A ++ (v1 ++ v2)).take (A.length + i) ++ [x] ++ (A ++ (v1 ++ v2)).drop (A.length + i + 1) := by
  rw [List.set_eq_take_append_cons_drop, if_pos hi]
  have h1 : (A ++ (v1 ++ v2)).drop (A.length + v1.length) = v2 := by rw [← List.append_assoc, ← List.length_append, List.drop_left]
  have h2 : (A ++ (v1 ++ v2)).take (A.length + i) = A ++ v1.take i := by rw [List.take_length_add_append, List.take_append_of_le_length (by omega)]
  have h3 : (A ++ (v1 ++ v2)).drop (A.length + i + 1) = v1.drop (i + 1) ++ v2 := by rw [Nat.add_assoc, List.drop_length_add_append, List.drop_append_of_le_length (by omega)]
  rw [h1, h2, h3]
  simp

theorem cells_rep {c : AV} {v : Value} (hr : RA I g w c [v]) (h1 : (cellsOf c).all oneW = true) : RAs I g w (cellsOf c) v.cells.toList := by
  have hu : c ≠ .undef := by rintro rfl; simp [cellsOf, oneW, oneAV] at h1
  rcases cellsOf_rep hr hu with r | ⟨n, xs, rfl⟩
  · exact r
  · have := oneCell_of_rep hr (by simpa [cellsOf] using h1) v (by simp)
    have e : v.cells = #[v] := by cases v <;> simp_all [Value.oneCell', Value.cells]
    rw [e]
    simp only [cellsOf, RAs]
    exact ⟨[v], [], rfl, hr, rfl⟩

theorem run_loadAt' {t : TypeId} {agg : Bool} {n : Nat} (hp : pty P t = some (agg, n)) {ad : Addr} {us : List Value} (ha : At w ad us) (hl : us.length = n) (h1 : agg = false → us.length = 1) :
    (Instr.loadAt t (.pointer (some ad))).run P w = .ok (valOf agg us) w := by
  simp only [Instr.loadAt, Instr.sureAddr, Sem.run_bind, Sem.run_pure, Result.andThen_ok]
  exact run_loadVar' hp ha hl (fun e => hl ▸ h1 e)

theorem vload_sound (ok : HOk D I g w h) {t : TypeId} {a av : AV} {v : Value} (e : vload P h t a = some av) (ra : RA I g w a [v]) (hon : a.on D) :
    ∃ u, (Instr.loadAt t v).run P w = .ok u w ∧ RA I g w av [u] ∧ av.on D := by
  unfold vload at e
  split at e
  · -- a variable
    rename_i agg n id off hp
    split at e
    · rename_i cells hx
      obtain ⟨C, T, hC, hr, _⟩ := ok.blk id _ hx
      have hd := (ok.dom id _ hx).2
      simp only [Option.bind_eq_some_iff] at e
      obtain ⟨cs, e1, e2⟩ := e
      obtain ⟨hle, hrs⟩ := hr.sub e1
      obtain ⟨h1, hv⟩ := ldres_rep e2 hrs
      simp only [RA, List.cons.injEq, and_true] at ra
      subst ra
      refine ⟨_, run_loadAt' hp (var_at hC n) ?_ h1, hv, ldres_on e2 (ons_sub hd e1)⟩
      simp only [List.length_take, List.length_drop]; omega
    · rename_i cells hx
      obtain ⟨us, ha, hr, _⟩ := ok.blk id _ hx
      simp only [Option.bind_eq_some_iff] at e
      obtain ⟨cs, e1, e2⟩ := e
      obtain ⟨hle, hrs⟩ := (RAs_p (g := g) hr).sub e1
      obtain ⟨h1, hv⟩ := ldres_rep e2 hrs
      simp only [RA, List.cons.injEq, and_true] at ra
      subst ra
      refine ⟨_, run_loadAt' hp (ha.1.sub off n) ?_ h1, hv, ldres_on e2 (ons_sub (ons_p _) e1)⟩
      simp only [List.length_take, List.length_drop]; omega
    · cases e
  · -- an array's element
    rename_i agg n id off i hp
    split at e
    · rename_i cells hx
      obtain ⟨C, T, hC, hr, _⟩ := ok.blk id _ hx
      have hd := (ok.dom id _ hx).2
      simp only [RA, List.cons.injEq, and_true] at ra
      subst ra
      split at e
      · rename_i m xs rest hdr
        split at e
        · cases e
        · rename_i hc
          simp only [Bool.or_eq_true, not_or, Bool.not_eq_true, bne_eq_false_iff_eq] at hc
          obtain ⟨rfl, rfl⟩ := hc
          simp only [Option.map_eq_some_iff] at e
          obtain ⟨c, hc, rfl⟩ := e
          obtain ⟨hle, hrs⟩ := hr.drop hdr
          simp only [RAs, RA, R] at hrs
          obtain ⟨v1, v2, e1, ⟨hl1, hl2, hre⟩, _⟩ := hrs
          obtain ⟨u, hu, hru⟩ := hre.get hc
          have hget : C.toList[off + i]? = some u := by
            have : (C.toList.drop off)[i]? = some u := by rw [e1, List.getElem?_append_left (List.getElem?_eq_some_iff.1 hu).1]; exact hu
            rwa [List.getElem?_drop] at this
          have ha : At w ((⟨g.blk id, 0, none⟩ : Addr).add (off + i)) [u] := by
            have := var_at (off := off + i) hC 1
            have e2 : (C.toList.drop (off + i)).take 1 = [u] := by
              obtain ⟨hlt, hg⟩ := List.getElem?_eq_some_iff.1 hget
              rw [List.drop_eq_getElem_cons hlt, hg]; rfl
            rwa [e2] at this
          exact ⟨_, run_loadAt' hp ha rfl (fun _ => rfl), by simp only [RA]; exact hru, by simp only [AV.on]⟩
      · split at e
        · cases e
        · rename_i hc
          simp only [Bool.or_eq_true, not_or, Bool.not_eq_true, bne_eq_false_iff_eq] at hc
          obtain ⟨rfl, rfl⟩ := hc
          simp only [Option.bind_eq_some_iff] at e
          obtain ⟨cs, e1, e2⟩ := e
          obtain ⟨hle, hrs⟩ := hr.sub e1
          obtain ⟨h1, hv⟩ := ldres_rep e2 hrs
          refine ⟨_, run_loadAt' hp (var_at hC 1) ?_ h1, hv, ldres_on e2 (ons_sub hd e1)⟩
          simp only [List.length_take, List.length_drop]; omega
    · cases e
  · -- a list's element
    rename_i agg n id m sz i off hp
    split at e
    · rename_i e0 sz' xs fro fl hx
      split at e
      · rename_i hc
        obtain ⟨rfl, rfl⟩ := hc
        simp only [Option.bind_eq_some_iff] at e
        obtain ⟨c, hc, cs, e1, e2⟩ := e
        obtain ⟨vals, ho, hrc, _⟩ := ok.blk id _ hx
        simp only [RA] at ra
        obtain ⟨ad, m', cp, hh, ev⟩ := ra
        simp only [List.cons.injEq, and_true] at ev
        subst ev
        obtain ⟨hat, _⟩ := ownsRow_at ho hh
        obtain ⟨us, hus, hul, hru⟩ := hrc.get hc
        have hru' := RAs_p (g := g) (hru.mono0 (fun b hb => hb.1))
        obtain ⟨hle, hrs⟩ := hru'.sub e1
        obtain ⟨h1, hv⟩ := ldres_rep e2 hrs
        have hat' : At w (ad.add (i * sz' + off)) ((us.drop off).take n) := by
          rw [← add_add]
          have := (hat.sub (i * sz') sz')
          rw [hus] at this
          exact this.sub off n
        refine ⟨_, run_loadAt' hp hat' ?_ h1, hv, ldres_on e2 (ons_sub (ons_p _) e1)⟩
        simp only [List.length_take, List.length_drop]; omega
      · cases e
    · cases e
  · -- an element of what stays
    rename_i agg n cells hp
    simp only [Option.bind_eq_some_iff] at e
    obtain ⟨cs, e1, e2⟩ := e
    simp only [RA, R] at ra
    obtain ⟨ad, us, ev, _, hat, hru⟩ := ra
    simp only [List.cons.injEq, and_true] at ev
    subst ev
    have hru' := RAs_p (g := g) hru
    obtain ⟨hle, hrs⟩ := hru'.sub e1
    obtain ⟨h1, hv⟩ := ldres_rep e2 hrs
    have hat' : At w ad ((us.drop 0).take n) := by
      have := hat.1.sub 0 n
      have e0 : ad.add 0 = ad := by simp [Addr.add]
      rwa [e0] at this
    refine ⟨_, run_loadAt' hp hat' ?_ h1, hv, ldres_on e2 (ons_sub (ons_p _) e1)⟩
    simp only [List.length_take, List.length_drop]; omega
  · cases e

theorem CF.setRow {w : World} {b : Nat} {C : Array Value} {T : TypeId} {fr : Nat × Nat} (hg : w.heap[b]? = some (.cells C T fr)) (C' : Array Value) : CF w (w.setRow b C') := fun b' C2 T2 fr2 h => by
  by_cases e : b' = b
  · subst e
    rw [setRow_heap w _ C C' T _ hg] at h
    cases h
    exact .inr ⟨C, T, hg⟩
  · rw [setRow_other w b b' C' e] at h
    exact .inr ⟨C2, T2, h⟩

/-- a variable's cells turned -/
theorem Tr.setVar (ok : HOk D I g w h) (small : ∀ b, I b → b < w.heap.size) {id : Nat} {cells cells' : List AV} (hx : hlook h id = some (.var cells)) {C C' : Array Value} {T : TypeId}
    (hC : w.heap[g.blk id]? = some (.cells C T (0, 0))) (hn : ¬ I (g.blk id)) (hr : RAs I g w cells' C'.toList) (hon : AV.ons D cells') :
    Tr D I g w h D I g (w.setRow (g.blk id) C') (hset h id (.var cells')) := by
  have so : SameOn I w (w.setRow (g.blk id) C') := fun b hb => setRow_other w (g.blk id) b C' (fun e => hn (e ▸ hb))
  refine Tr.turn ok small hx rfl ⟨rfl, rfl, rfl, by simp [World.setRow], fun k hk => absurd hk (by omega)⟩ (CF.setRow hC _) (fun b _ hne => setRow_other w (g.blk id) b C' (fun e => hne (by simp [ownB, e]))) (Gh.same.refl _ _) (Gh.kp.refl _) (fun _ _ h => h) ?_ ?_ (fun _ _ _ h => h) ?_
  · exact ⟨C', T, setRow_heap w _ C C' T _ hC, RAs.mono so (fun _ h => h) (Gh.same.refl _ _) _ _ hon hr, hn⟩
  · exact ⟨(ok.dom id _ hx).1, hon⟩
  · exact fun b hb => .inl hb

theorem RC.set {I : Nat → Prop} {w : World} {sz : Nat} : ∀ {xs : List (List PV)} {vals : List Value} {i : Nat} {c' : List PV} {us : List Value}, RC I w sz xs vals → i < xs.length → Rs I w c' us → us.length = sz →
    RC I w sz (xs.set i c') (vals.take (i * sz) ++ us ++ vals.drop (i * sz + sz))
  | [], _, _, _, _, _, hi, _, _ => by simp at hi
  | x :: xs, _, 0, c', us, ⟨v1, v2, e, l, r, r'⟩, _, hr, hl => by
    subst e
    simp only [List.set_cons_zero, Nat.zero_mul, List.take_zero, List.nil_append, Nat.zero_add]
    rw [← l, List.drop_left]
    exact ⟨us, v2, rfl, hl.trans l.symm, hr, by rw [l]; exact r'⟩
  | x :: xs, _, i + 1, c', us, ⟨v1, v2, e, l, r, r'⟩, hi, hr, hl => by
    subst e
    have := RC.set (i := i) r' (by simpa using hi) hr hl
    simp only [List.set_cons_succ]
    refine ⟨v1, _, ?_, l, r, this⟩
    have e1 : (i + 1) * sz = v1.length + i * sz := by rw [Nat.add_mul, l]; omega
    rw [e1, List.take_length_add_append, Nat.add_assoc, List.drop_length_add_append]
    simp

theorem vstore_sound (ok : HOk D I g w h) (small : ∀ b, I b → b < w.heap.size) {t : TypeId} {a av : AV} {va vv : Value} {h' : Heap} (e : vstore P h t a av = some h') (ra : RA I g w a [va]) (rv : RA I g w av [vv]) (hov : av.on D) :
    ∃ w', (Instr.storeAt t va vv).run P w = .ok () w' ∧ Tr D I g w h D I g w' h' := by
  unfold vstore at e
  split at e
  · rename_i n id off hp
    split at e
    · rename_i cells hx
      split at e
      · rename_i hc
        simp only [Option.map_eq_some_iff] at e
        obtain ⟨cs, e1, rfl⟩ := e
        obtain ⟨C, T, hC, hr, hn⟩ := ok.blk id _ hx
        have hd := (ok.dom id _ hx).2
        have hrn := cells_rep rv hc.2
        have hone := oneCells_of_rep hrn hc.2
        have hw := hrn.width
        obtain ⟨hle, hrs⟩ := hr.putAt hrn e1
        simp only [RA, List.cons.injEq, and_true] at ra
        subst ra
        have hlen : vv.cells.toList.length = n := by rw [hw]; exact hc.1
        refine ⟨_, ?_, Tr.setVar ok small hx hC hn (C' := (C.toList.take off ++ vv.cells.toList ++ C.toList.drop (off + n)).toArray) ?_ (ons_putAt hd (ons_cellsOf hov) e1)⟩
        · simp only [Instr.storeAt, Instr.sureAddr, Sem.run_bind, Sem.run_pure, Result.andThen_ok]
          have : (⟨g.blk id, 0, none⟩ : Addr).add off = ⟨g.blk id, off, none⟩ := by rw [Addr.add_mid]; simp
          rw [this]
          exact run_storeVar' hp hC hlen (by simp at hle hlen; omega) hone
        · rw [← hlen]; simpa using hrs
      · cases e
    · cases e
  · rename_i n id off i hp
    split at e
    · rename_i cells hx
      obtain ⟨C, T, hC, hr, hn⟩ := ok.blk id _ hx
      have hd := (ok.dom id _ hx).2
      simp only [RA, List.cons.injEq, and_true] at ra
      subst ra
      have hadd : (⟨g.blk id, 0, none⟩ : Addr).add (off + i) = ⟨g.blk id, off + i, none⟩ := by rw [Addr.add_mid]; simp
      split at e
      · rename_i m xs rest hdr
        split at e
        case h_2 => cases e
        rename_i c
        split at e
        · rename_i hc
          obtain ⟨hone, rfl, hi⟩ := hc
          simp only [Option.map_eq_some_iff] at e
          obtain ⟨cs, e1, rfl⟩ := e
          obtain ⟨hle, hrs⟩ := hr.drop hdr
          simp only [RAs, RA, R] at hrs rv
          obtain ⟨v1, v2, e2, ⟨hl1, hl2, hre⟩, _⟩ := hrs
          have hre' : RAs I g w [.p (.arr m (xs.set i c))] (v1.set i vv) := by
            simp only [RAs, RA, R]
            exact ⟨_, [], by simp, ⟨by simpa using hl1, by simpa using hl2, hre.set rv i⟩, rfl⟩
          obtain ⟨hle2, hrs2⟩ := hr.putAt hre' e1
          have h1 : vv.oneCell' = true := oneCell_of_rep (I := I) (g := g) (w := w) (c := .p c) (vs := [vv]) (by simpa only [RA] using rv) (by
            cases c <;> simp_all [oneW, oneAV, onePV]) vv (by simp)
          have hcells : vv.cells = #[vv] := by cases vv <;> simp_all [Value.oneCell', Value.cells]
          have hiv : i < v1.length := by omega
          have hsz : off + v1.length ≤ C.size := by
            have : (C.toList.drop off).length = (v1 ++ v2).length := by rw [e2]
            simp at this hle; omega
          refine ⟨_, ?_, Tr.setVar ok small hx hC hn (C' := (C.toList.take (off + i) ++ vv.cells.toList ++ C.toList.drop (off + i + 1)).toArray) ?_ (ons_putAt hd (by simp only [AV.ons, AV.on, and_self]) e1)⟩
          · simp only [Instr.storeAt, Instr.sureAddr, Sem.run_bind, Sem.run_pure, Result.andThen_ok]
            rw [hadd]
            exact run_storeVar' hp hC (by rw [hcells]; rfl) (by omega) (by rw [hcells]; simpa using h1)
          · have : C.toList.take off ++ v1.set i vv ++ C.toList.drop (off + (v1.set i vv).length) = C.toList.take (off + i) ++ vv.cells.toList ++ C.toList.drop (off + i + 1) := by
              rw [hcells]
              have hC0 : C.toList = C.toList.take off ++ (v1 ++ v2) := by rw [← e2, List.take_append_drop]
              have hto : (C.toList.take off).length = off := by simp; omega
              have := put_one (C.toList.take off) v1 v2 i vv hiv
              rw [← hC0, hto] at this
              simpa using this
            rw [← this]; simpa using hrs2
        · cases e
      · split at e
        · rename_i hc
          obtain ⟨hw1, rfl, hall⟩ := hc
          simp only [Option.map_eq_some_iff] at e
          obtain ⟨cs, e1, rfl⟩ := e
          have hall' : (cellsOf av).all oneW = true := by
            rw [List.all_eq_true] at hall ⊢
            intro x hx
            have := hall x hx
            cases x with
            | p c => cases c <;> simp_all [oneW, oneAV, onePV]
            | _ => simpa [oneW] using this
          have hrn := cells_rep rv hall'
          have hone := oneCells_of_rep hrn hall'
          have hw := hrn.width
          obtain ⟨hle, hrs⟩ := hr.putAt hrn e1
          have hlen : vv.cells.toList.length = 1 := by rw [hw]; exact hw1
          refine ⟨_, ?_, Tr.setVar ok small hx hC hn (C' := (C.toList.take (off + i) ++ vv.cells.toList ++ C.toList.drop (off + i + 1)).toArray) ?_ (ons_putAt hd (ons_cellsOf hov) e1)⟩
          · simp only [Instr.storeAt, Instr.sureAddr, Sem.run_bind, Sem.run_pure, Result.andThen_ok]
            rw [hadd]
            exact run_storeVar' hp hC hlen (by simp at hle hlen; omega) hone
          · rw [hlen] at hrs; simpa using hrs
        · cases e
      · cases e
    · cases e
  · rename_i n id m sz i off hp
    split at e
    · rename_i e0 sz' xs fl hx
      split at e
      · rename_i c hc
        simp only [Option.bind_eq_some_iff] at e
        obtain ⟨vc, hvc, e⟩ := e
        split at e
        · rename_i hcond
          obtain ⟨rfl, rfl, hw0, hall, hflat⟩ := hcond
          simp only [Option.bind_eq_some_iff, Option.map_eq_some_iff] at e
          obtain ⟨cs, e1, c', e2, rfl⟩ := e
          obtain ⟨vals, ho, hrc, hk, hone⟩ := ok.blk id _ hx
          simp only [RA] at ra
          obtain ⟨ad, m', cp, hh, ev⟩ := ra
          simp only [List.cons.injEq, and_true] at ev
          subst ev
          rcases ho.2 with ⟨e3, hn0⟩ | ⟨gb, cap, cur, e3, hbase, hg, hle, hmx, hcs, hct⟩
          · rw [hh] at e3; cases e3
          rw [hh] at e3
          cases e3
          obtain ⟨us, hus, hul, hru⟩ := hrc.get hc
          have hrn := cells_rep rv hall
          have honen := oneCells_of_rep hrn hall
          have hwn := hrn.width
          have hfl : RAs (If I g fl) g w (cellsOf av) vv.cells.toList := by
            have h1 := flats_rep (J := If I g fl) vc hflat (toPs_nil hvc hrn)
            have h2 : cellsOf av = vc.map .p := toPs_nil_eq hvc hall
            rw [h2]; exact RAs_p h1
          obtain ⟨hle1, hrs⟩ := (RAs_p (g := g) hru).putAt hfl e1
          have hc'' := toPs_nil e2 hrs
          have hlen : vv.cells.toList.length = n := by rw [hwn]; exact hw0
          have hi : i < xs.length := (List.getElem?_eq_some_iff.1 hc).1
          have hvl := RC.length hrc
          have hisz : i * sz' + sz' ≤ xs.length * sz' := by
            have := Nat.mul_le_mul_right sz' (show i + 1 ≤ xs.length from hi)
            rw [Nat.add_mul, Nat.one_mul] at this
            exact this
          have hcap : xs.length * sz' ≤ cur.size := by rw [hcs]; exact Nat.mul_le_mul_right _ hle
          rw [hul, hlen] at hle1
          have hadd : (⟨gb, 0, none⟩ : Addr).add (i * sz' + off) = ⟨gb, i * sz' + off, none⟩ := by rw [Addr.add_mid]; simp
          have hrun := run_storeVar' (P := P) (w := w) hp hg (off := i * sz' + off) hlen (by omega) honen
          have hset := RC.set hrc hi hc'' (by
            simp only [List.length_append, List.length_take, List.length_drop]; omega)
          -- the cells, in one form
          have hvals : vals.take (i * sz') ++ (us.take off ++ vv.cells.toList ++ us.drop (off + vv.cells.toList.length)) ++ vals.drop (i * sz' + sz') = vals.take (i * sz' + off) ++ vv.cells.toList ++ vals.drop (i * sz' + off + n) := by
            have hd : us = (vals.drop (i * sz')).take sz' := hus.symm
            have h1 : vals.take (i * sz') ++ us.take off = vals.take (i * sz' + off) := by
              rw [hd, List.take_take, Nat.min_eq_left (by omega), List.take_add]
            have h2 : us.drop (off + n) ++ vals.drop (i * sz' + sz') = vals.drop (i * sz' + off + n) := by
              rw [hd, List.drop_take, List.drop_drop, show i * sz' + (off + n) = i * sz' + off + n from by omega]
              have := List.take_append_drop (sz' - (off + n)) (vals.drop (i * sz' + off + n))
              rw [List.drop_drop, show i * sz' + off + n + (sz' - (off + n)) = i * sz' + sz' from by omega] at this
              exact this
            rw [hlen, ← h1, ← h2]
            simp
          refine ⟨w.setRow gb (cur.toList.take (i * sz' + off) ++ vv.cells.toList ++ cur.toList.drop (i * sz' + off + n)).toArray, ?_, ?_⟩
          · simp only [Instr.storeAt, Instr.sureAddr, Sem.run_bind, Sem.run_pure, Result.andThen_ok]
            rw [hadd]; exact hrun
          · have hnI : ¬ I gb := fun hI => by
              have := ((hk gb (by rw [hh]; rfl)).1.1 hI)
              cases this
            have hownB : ownB g id (.list e0 sz' xs false fl) = some gb := by simp only [ownB, hh, Value.ownBlock]
            have so : SameOn I w (w.setRow gb (cur.toList.take (i * sz' + off) ++ vv.cells.toList ++ cur.toList.drop (i * sz' + off + n)).toArray) := fun b hb => setRow_other w gb b _ (fun e => hnI (e ▸ hb))
            refine Tr.turn ok small hx rfl ⟨rfl, rfl, rfl, by simp [World.setRow], fun k hk => absurd hk (by omega)⟩ (CF.setRow hg _) (fun b _ hne => setRow_other w gb b _ (fun e => hne (by rw [hownB, e]))) (Gh.same.refl _ _) (Gh.kp.refl _) (fun _ _ h => h) ?_ ?_ (fun _ _ _ h => h) ?_
            · refine ⟨vals.take (i * sz' + off) ++ vv.cells.toList ++ vals.drop (i * sz' + off + n), ?_, ?_, ?_, ?_⟩
              · simp only [List.length_set]
                rw [hh]
                refine ⟨?_, .inr ⟨gb, cp, _, rfl, hbase, setRow_heap w gb cur _ e0 _ hg, hle, hmx, ?_, ?_⟩⟩
                · simp only [List.length_append, List.length_take, List.length_drop, hlen, hvl]; omega
                · simp only [List.size_toArray, List.length_append, List.length_take, List.length_drop, hlen, Array.length_toList]; omega
                · rw [← hct]
                  have hl1 : (cur.toList.take (i * sz' + off)).length = i * sz' + off := by simp; omega
                  have hl2 : ((cur.toList.take (xs.length * sz')).take (i * sz' + off)) = cur.toList.take (i * sz' + off) := by rw [List.take_take, Nat.min_eq_left (by omega)]
                  rw [hl2]
                  simp only [List.append_assoc]
                  rw [show xs.length * sz' = (cur.toList.take (i * sz' + off)).length + (xs.length * sz' - (i * sz' + off)) from by rw [hl1]; omega, List.take_length_add_append]
                  congr 1
                  rw [show xs.length * sz' - (i * sz' + off) = vv.cells.toList.length + (xs.length * sz' - (i * sz' + off) - n) from by rw [hlen]; omega, List.take_length_add_append]
                  congr 1
                  rw [hl1, List.drop_take]
                  congr 1
                  omega
              · rw [hvals] at hset
                exact RC.mono (fun b hb => so b hb.1) (fun _ h => h) hset
              · simp only [List.length_set]
                exact hk
              · intro v hv
                rcases List.mem_append.1 hv with hv | hv
                · rcases List.mem_append.1 hv with hv | hv
                  · exact hone v (List.mem_of_mem_take hv)
                  · exact honen v hv
                · exact hone v (List.mem_of_mem_drop hv)
            · have := ok.dom id _ hx
              exact ⟨by simpa using this.1, by simpa using this.2⟩
            · intro b hb
              simp only [ownB, List.length_set] at hb ⊢
              exact .inl hb
        · cases e
      · cases e
    · cases e
  · cases e
end
end Go.Abs
