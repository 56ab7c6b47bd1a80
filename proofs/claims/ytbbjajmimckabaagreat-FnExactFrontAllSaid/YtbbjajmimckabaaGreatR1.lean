/- A frame for symbolic execution: pure data, who owns which block, what a slot holds. Over any program. -/
import Derived.WalkKit
import Derived.WalkSpells
import Derived.WalkLawsBesides
import Derived.KernelRfl
set_option linter.unusedVariables false
set_option linter.unusedSimpArgs false
namespace Go.Sx
open Go.RowKit

/-- Pure data: a leaf (a value without memory), a slice of elements of k cells each, a pointer to a variable of these cells, a function value with what it captured. -/
inductive D where
  | v (x : Value)
  | sl (k : Nat) (es : List (List D))
  | ptr (ds : List D)
  | cl (g : FuncId) (caps : List D)

/-- The owner of a block: nobody (never written), a local variable's box, or a tree of slices (which one, and the place in it). -/
inductive Owner where
  | imm
  | box (id : Nat)
  | tok (t : Nat) (q : List (Nat × Nat))

abbrev Own := Nat → Owner

def cellAt (es : List (List D)) (i j : Nat) : Option D := (es[i]?).bind (·[j]?)

inductive Rep (w : World) (ω : Own) : (List (Nat × Nat) → Owner → Prop) → D → Value → Prop
  | v (R : List (Nat × Nat) → Owner → Prop) (x : Value) (h1 : x.oneCell' = true) : Rep w ω R (.v x) x
  | nil (R : List (Nat × Nat) → Owner → Prop) (k : Nat) (a : Option Addr) : Rep w ω R (.sl k []) (.slice a 0 0)
  | row (R : List (Nat × Nat) → Owner → Prop) (k : Nat) (es : List (List D)) (b off cap : Nat) (arr : Array Value) (ty : TypeId) (fr : Nat × Nat) (us : Nat → Nat → Value)
      (hb : w.heap[b]? = some (.cells arr ty fr)) (hR : R [] (ω b)) (hc : es.length ≤ cap) (hs : off + cap * k ≤ arr.size) (hk : ∀ e ∈ es, e.length = k)
      (hu : ∀ i j d, cellAt es i j = some d → arr[off + i * k + j]? = some (us i j))
      (hd : ∀ i j d, cellAt es i j = some d → Rep w ω (fun q => R ((i, j) :: q)) d (us i j)) :
      Rep w ω R (.sl k es) (.slice (some ⟨b, off, none⟩) es.length cap)
  | ptr (R : List (Nat × Nat) → Owner → Prop) (ds : List D) (b : Nat) (arr : Array Value) (ty : TypeId) (fr : Nat × Nat) (us : Nat → Value)
      (hb : w.heap[b]? = some (.cells arr ty fr)) (hR : R [] (ω b)) (hs : arr.size = ds.length)
      (hu : ∀ j d, ds[j]? = some d → arr[j]? = some (us j)) (hd : ∀ j d, ds[j]? = some d → Rep w ω (fun q => R ((0, j) :: q)) d (us j)) :
      Rep w ω R (.ptr ds) (.pointer (some ⟨b, 0, none⟩))
  | cl (R : List (Nat × Nat) → Owner → Prop) (g : FuncId) (caps : List D) (cs : Array Value) (us : Nat → Value) (hs : cs.size = caps.length)
      (hu : ∀ j d, caps[j]? = some d → cs[j]? = some (us j)) (hd : ∀ j d, caps[j]? = some d → Rep w ω (fun q => R ((0, j) :: q)) d (us j)) :
      Rep w ω R (.cl g caps) (.func (.func g) #[] cs)

/-- Reading goes on where the blocks that it meets are as they were, and their owners are turned as the reading asks. -/
theorem Rep.frame {w w' : World} {ω ω' : Own} {R : List (Nat × Nat) → Owner → Prop} {d : D} {v : Value} (h : Rep w ω R d v) :
    ∀ {R' : List (Nat × Nat) → Owner → Prop}, (∀ b q, b < w.heap.size → R q (ω b) → R' q (ω' b) ∧ w'.heap[b]? = w.heap[b]?) → Rep w' ω' R' d v := by
  induction h with
  | v R x h1 => intro R' _; exact .v R' x h1
  | nil R k a => intro R' _; exact .nil R' k a
  | row R k es b off cap arr ty fr us hb hR hc hs hk hu hd ih =>
    intro R' hf
    have hlt : b < w.heap.size := by
      rcases Nat.lt_or_ge b w.heap.size with h | h
      · exact h
      · simp [Array.getElem?_eq_none h] at hb
    obtain ⟨h1, h2⟩ := hf b [] hlt hR
    exact .row R' k es b off cap arr ty fr us (h2.trans hb) h1 hc hs hk hu (fun i j d hd' => ih i j d hd' (fun b q hl hq => hf b ((i, j) :: q) hl hq))
  | ptr R ds b arr ty fr us hb hR hs hu hd ih =>
    intro R' hf
    have hlt : b < w.heap.size := by
      rcases Nat.lt_or_ge b w.heap.size with h | h
      · exact h
      · simp [Array.getElem?_eq_none h] at hb
    obtain ⟨h1, h2⟩ := hf b [] hlt hR
    exact .ptr R' ds b arr ty fr us (h2.trans hb) h1 hs hu (fun j d hd' => ih j d hd' (fun b q hl hq => hf b ((0, j) :: q) hl hq))
  | cl R g caps cs us hs hu hd ih =>
    intro R' hf
    exact .cl R' g caps cs us hs hu (fun j d hd' => ih j d hd' (fun b q hl hq => hf b ((0, j) :: q) hl hq))

inductive Tag where
  | free
  | own (t : Nat)
  | ro (t : Nat)

def Tag.R : Tag → List (Nat × Nat) → Owner → Prop
  | .free, _, o => o = .imm
  | .own t, q, o => o = .tok t q
  | .ro t, _, o => o = .imm ∨ ∃ q, o = .tok t q

def Tag.hdr (τ : Nat → Nat × Value) : Tag → Nat × Value → Prop
  | .own t, y => τ t = y
  | _, _ => True

/-- A cell of a new variable, until it is laid. -/
inductive NC where
  | und
  | v (x : Value)
  | sl (t : Tag) (k : Nat) (es : List (List D))

inductive Leaf where
  | und
  | v (x : Value)
  | sb (c : Bool)
  | sl (t : Tag) (k : Nat) (es : List (List D))
  | ptr (id off : Nat)
  | ep (t : Tag) (k : Nat) (es : List (List D)) (i j : Nat)
  | rp (ds : List D) (off : Nat)
  | fd (d : D)
  | clo (g : FuncId) (ids : List Nat)
  | sn (t i j k : Nat) (es : List (List D))
  | np (t : Nat) (vs : List NC)

/-- A pointer to a block. -/
def ptrTo (b : Nat) : Value := .pointer (some ⟨b, 0, none⟩)

def NCSat (w : World) (ω : Own) (τ : Nat → Nat × Value) : NC → Value → Prop
  | .und, _ => True
  | .v x, y => y = x
  | .sl t k es, y => Rep w ω t.R (.sl k es) y ∧ t.hdr τ (k, y)

def Sat (w : World) (ω : Own) (τ : Nat → Nat × Value) : Leaf → Value → Prop
  | .und, _ => True
  | .v x, y => y = x
  | .sb c, y => y = .bool c
  | .sl t k es, y => Rep w ω t.R (.sl k es) y ∧ t.hdr τ (k, y)
  | .ptr id off, y => ∃ b, ω b = .box id ∧ y = .pointer (some ⟨b, off, none⟩)
  | .ep t k es i j, y => ∃ b off cap, y = .pointer (some ⟨b, off + i * k + j, none⟩) ∧ i < es.length ∧
      Rep w ω t.R (.sl k es) (.slice (some ⟨b, off, none⟩) es.length cap) ∧ t.hdr τ (k, .slice (some ⟨b, off, none⟩) es.length cap)
  | .rp ds off, y => ∃ b, y = .pointer (some ⟨b, off, none⟩) ∧ Rep w ω Tag.free.R (.ptr ds) (ptrTo b)
  | .fd d, y => Rep w ω Tag.free.R d y
  | .clo g ids, y => ∃ bs : List Nat, y = .func (.func g) #[] (bs.map ptrTo).toArray ∧ bs.length = ids.length ∧ ∀ (i : Nat) (id : Nat), ids[i]? = some id → ∃ b, bs[i]? = some b ∧ ω b = .box id
  | .sn t i j k es, y => Rep w ω (fun q o => o = .tok t ((i, j) :: q)) (.sl k es) y ∧
      ∃ (kT b off len cap : Nat) (arr : Array Value) (ty : TypeId) (fr : Nat × Nat), τ t = (kT, .slice (some ⟨b, off, none⟩) len cap) ∧ ω b = .tok t [] ∧ w.heap[b]? = some (.cells arr ty fr) ∧ arr[off + i * kT + j]? = some y
  | .np t vs, y => ∃ (b : Nat) (ty : TypeId) (arr : Array Value), y = ptrTo b ∧ ω b = .tok t [] ∧ w.heap[b]? = some (.cells arr ty (0, 0)) ∧ arr.size = vs.length ∧ ∀ (j : Nat) (c : NC), vs[j]? = some c → ∃ u, arr[j]? = some u ∧ NCSat w ω τ c u

/-- A value in a slot: one cell, or a struct. -/
inductive AL where
  | one (l : Leaf)
  | agg (ls : List Leaf)

inductive PV where
  | al (a : AL)
  | tup (as : List AL)

abbrev PV.one (l : Leaf) : PV := .al (.one l)
abbrev PV.agg (ls : List Leaf) : PV := .al (.agg ls)
abbrev PV.und : PV := .al (.one .und)

def SatL (S : Leaf → Value → Prop) (ls : List Leaf) (vs : Array Value) : Prop :=
  vs.size = ls.length ∧ ∀ (i : Nat) (l : Leaf), ls[i]? = some l → ∃ u, vs[i]? = some u ∧ S l u

def SatA (S : Leaf → Value → Prop) : AL → Value → Prop
  | .one l, y => S l y
  | .agg ls, y => ∃ vs, y = .agg vs ∧ SatL S ls vs

def SatP (S : Leaf → Value → Prop) : PV → Value → Prop
  | .al a, y => SatA S a y
  | .tup as, y => ∃ vs : Array Value, y = .tuple vs ∧ vs.size = as.length ∧ ∀ (i : Nat) (a : AL), as[i]? = some a → ∃ u, vs[i]? = some u ∧ SatA S a u

structure St where
  env : List PV
  boxes : List (Nat × List Leaf)

def getBox (id : Nat) : List (Nat × List Leaf) → Option (List Leaf)
  | [] => none
  | (i, ls) :: r => if i = id then some ls else getBox id r

def AL.map (f : Leaf → Leaf) : AL → AL
  | .one l => .one (f l)
  | .agg ls => .agg (ls.map f)
def PV.map (f : Leaf → Leaf) : PV → PV
  | .al a => .al (a.map f)
  | .tup as => .tup (as.map (AL.map f))
def St.map (f : Leaf → Leaf) (s : St) : St := ⟨s.env.map (PV.map f), s.boxes.map fun x => (x.1, x.2.map f)⟩

theorem SatL.map {S S' : Leaf → Value → Prop} {f : Leaf → Leaf} (h : ∀ l v, S l v → S' (f l) v) {ls : List Leaf} {vs : Array Value} (hs : SatL S ls vs) : SatL S' (ls.map f) vs := by
  refine ⟨by simpa using hs.1, fun i l hl => ?_⟩
  rw [List.getElem?_map, Option.map_eq_some_iff] at hl
  obtain ⟨l0, h0, rfl⟩ := hl
  obtain ⟨u, h1, h2⟩ := hs.2 i l0 h0
  exact ⟨u, h1, h _ _ h2⟩

theorem SatA.map {S S' : Leaf → Value → Prop} {f : Leaf → Leaf} (h : ∀ l v, S l v → S' (f l) v) : ∀ {a : AL} {y : Value}, SatA S a y → SatA S' (a.map f) y
  | .one l, y, hs => h _ _ hs
  | .agg ls, y, ⟨vs, e, hs⟩ => ⟨vs, e, hs.map h⟩

theorem SatP.map {S S' : Leaf → Value → Prop} {f : Leaf → Leaf} (h : ∀ l v, S l v → S' (f l) v) : ∀ {p : PV} {y : Value}, SatP S p y → SatP S' (p.map f) y
  | .al a, y, hs => show SatA S' (a.map f) y from SatA.map h (show SatA S a y from hs)
  | .tup as, y, ⟨vs, e, hn, hs⟩ => ⟨vs, e, by simpa using hn, fun i a ha => by
      rw [List.getElem?_map, Option.map_eq_some_iff] at ha
      obtain ⟨a0, h0, rfl⟩ := ha
      obtain ⟨u, h1, h2⟩ := hs i a0 h0
      exact ⟨u, h1, SatA.map h h2⟩⟩

theorem getBox_map (f : Leaf → Leaf) (id : Nat) : ∀ bs : List (Nat × List Leaf), getBox id (bs.map fun x => (x.1, x.2.map f)) = (getBox id bs).map (·.map f)
  | [] => rfl
  | (i, ls) :: r => by
    simp only [List.map_cons, getBox]
    split
    · rfl
    · exact getBox_map f id r

/-- Where a call begins: the world, and the blocks that are handed over to it. -/
structure Base where
  w : World
  G : Nat → Prop
  H : Nat → Nat × Value

/-- From here on a token stands for a tree that was handed over: its header does not turn. -/
def giv : Nat := 1000000000

/-- A block that the call may write. -/
def Base.mine (B : Base) (b : Nat) : Prop := B.w.heap.size ≤ b ∨ B.G b

/-- What lies below is as it was; the call may draw. -/
structure Blw (n : Nat) (w w' : World) : Prop where
  below : Below n w w'
  drawn : w.drawn ≤ w'.drawn
theorem Blw.size {n : Nat} {w w' : World} (h : Blw n w w') : w.heap.size ≤ w'.heap.size := h.below.size
theorem Blw.block {n : Nat} {w w' : World} (h : Blw n w w') : ∀ k, k < n → w'.heap[k]? = w.heap[k]? := h.below.block
theorem Blw.refl (n : Nat) (w : World) : Blw n w w := ⟨Below.refl _ _, Nat.le_refl _⟩
theorem Blw.drew {n : Nat} {w w' : World} (h : Blw n w w') : Blw n w w'.drew := ⟨h.below.drew, Nat.le_succ_of_le h.drawn⟩
theorem Blw.alloc {n : Nat} {w w' : World} (h : Blw n w w') (hn : n ≤ w'.heap.size) (o : Obj) : Blw n w (w'.alloc o) := ⟨h.below.alloc hn o, h.drawn⟩

/-- All but what the call may write is as it was. -/
structure Bel (B : Base) (w : World) : Prop where
  os : w.os = B.w.os
  tape : w.tape = B.w.tape
  output : w.output = B.w.output
  size : B.w.heap.size ≤ w.heap.size
  block : ∀ k, k < B.w.heap.size → ¬ B.G k → w.heap[k]? = B.w.heap[k]?
  drawn : B.w.drawn ≤ w.drawn

theorem Bel.next {B : Base} {w w' : World} (h : Bel B w) (k : Blw w.heap.size w w') : Bel B w' :=
  ⟨k.below.os.trans h.os, k.below.tape.trans h.tape, k.below.output.trans h.output, Nat.le_trans h.size k.below.size, fun i hi hg => (k.below.block i (Nat.lt_of_lt_of_le hi h.size)).trans (h.block i hi hg), Nat.le_trans h.drawn k.drawn⟩

/-- Nothing is handed over. -/
def Base.of (w : World) : Base := ⟨w, fun _ => False, fun _ => (0, undef)⟩

theorem Bel.refl (B : Base) : Bel B B.w := ⟨rfl, rfl, rfl, Nat.le_refl _, fun _ _ _ => rfl, Nat.le_refl _⟩

theorem Bel.below {w w' : World} (h : Bel (Base.of w) w') : Blw w.heap.size w w' := ⟨⟨h.os, h.tape, h.output, h.size, fun k hk => h.block k hk (fun h => h)⟩, h.drawn⟩

theorem Bel.setRow {B : Base} {w : World} (h : Bel B w) {b : Nat} (hb : B.mine b) (arr : Array Value) : Bel B (w.setRow b arr) :=
  ⟨h.os, h.tape, h.output, by simpa using h.size, fun k hk hg => by
    have : k ≠ b := by
      rintro rfl
      rcases hb with hb | hb
      · omega
      · exact hg hb
    rw [setRow_other w b k arr this]
    exact h.block k hk hg, h.drawn⟩

/-- What memory looks like: owned blocks are the call's own, and not frozen. -/
def Owned (w0 : Base) (w : World) (ω : Own) : Prop := ∀ b, ω b ≠ .imm → w0.mine b ∧ ∃ arr ty, w.heap[b]? = some (.cells arr ty (0, 0))

def BoxOk (w : World) (ω : Own) (τ : Nat → Nat × Value) (id : Nat) (ls : List Leaf) : Prop :=
  ∃ b arr ty, ω b = .box id ∧ (∀ b', ω b' = .box id → b' = b) ∧ w.heap[b]? = some (.cells arr ty (0, 0)) ∧ SatL (Sat w ω τ) ls arr

structure RelAt (w0 : Base) (st : St) (a : Act) (w : World) (ω : Own) (τ : Nat → Nat × Value) : Prop where
  defers : a.defers = []
  size : a.tmps.size = st.env.length
  below : Bel w0 w
  owned : Owned w0 w ω
  fixed : ∀ t, giv ≤ t → τ t = w0.H t
  env : ∀ (i : Nat) (p : PV), st.env[i]? = some p → ∃ v, a.tmps[i]? = some v ∧ SatP (Sat w ω τ) p v
  boxes : ∀ id ls, getBox id st.boxes = some ls → BoxOk w ω τ id ls

def Rel (w0 : Base) (st : St) (a : Act) (w : World) : Prop := ∃ ω τ, RelAt w0 st a w ω τ

theorem Owned.lt {w0 : Base} {w : World} {ω : Own} (h : Owned w0 w ω) {b : Nat} (hb : ω b ≠ .imm) : b < w.heap.size := by
  obtain ⟨_, arr, ty, e⟩ := h b hb
  rcases Nat.lt_or_ge b w.heap.size with h | h
  · exact h
  · simp [Array.getElem?_eq_none h] at e

theorem Owned.fresh {w0 : Base} {w : World} {ω : Own} (h : Owned w0 w ω) {b : Nat} (hb : w.heap.size ≤ b) : ω b = .imm := by
  cases e : ω b with
  | imm => rfl
  | box id => have := h.lt (b := b) (by simp [e]); omega
  | tok t q => have := h.lt (b := b) (by simp [e]); omega
end Go.Sx
