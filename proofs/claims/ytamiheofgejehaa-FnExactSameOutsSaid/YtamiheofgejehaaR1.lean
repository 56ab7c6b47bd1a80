/- A frame for symbolic execution: pure data, who owns which block, what a slot holds. Over any program. -/
import Derived.WalkKit
import Derived.WalkSpells
import Derived.WalkLawsBesides
import Derived.KernelRfl
set_option linter.unusedVariables false
set_option linter.unusedSimpArgs false
namespace Go.Sx
open Go.RowKit

/-- Pure data: a leaf (a value without memory), or a slice of elements of k cells each. -/
inductive D where
  | v (x : Value)
  | sl (k : Nat) (es : List (List D))

/-- The owner of a block: nobody (never written), a local variable's box, or a tree of slices (which one, and the place in it). -/
inductive Owner where
  | imm
  | box (id : Nat)
  | tok (t : Nat) (q : List (Nat × Nat))

abbrev Own := Nat → Owner

def cellAt (es : List (List D)) (i j : Nat) : Option D := (es[i]?).bind (·[j]?)

inductive Rep (w : World) (ω : Own) : (List (Nat × Nat) → Owner → Prop) → D → Value → Prop
  | v (R : List (Nat × Nat) → Owner → Prop) (x : Value) (h1 : x.oneCell' = true) : Rep w ω R (.v x) x
  | nil (R : List (Nat × Nat) → Owner → Prop) (k : Nat) (a : Option Addr) : Rep w ω R (.sl k []) (.slice a 0 0)
  | row (R : List (Nat × Nat) → Owner → Prop) (k : Nat) (es : List (List D)) (b off cap : Nat) (arr : Array Value) (ty : TypeId) (fr : Nat × Nat) (us : Nat → Nat → Value)
      (hb : w.heap[b]? = some (.cells arr ty fr)) (hR : R [] (ω b)) (hc : es.length ≤ cap) (hs : off + cap * k ≤ arr.size) (hk : ∀ e ∈ es, e.length = k)
      (hu : ∀ i j d, cellAt es i j = some d → arr[off + i * k + j]? = some (us i j))
      (hd : ∀ i j d, cellAt es i j = some d → Rep w ω (fun q => R ((i, j) :: q)) d (us i j)) :
      Rep w ω R (.sl k es) (.slice (some ⟨b, off, none⟩) es.length cap)

/-- Reading goes on where the blocks that it meets are as they were, and their owners are turned as the reading asks. -/
theorem Rep.frame {w w' : World} {ω ω' : Own} {R : List (Nat × Nat) → Owner → Prop} {d : D} {v : Value} (h : Rep w ω R d v) :
    ∀ {R' : List (Nat × Nat) → Owner → Prop}, (∀ b q, b < w.heap.size → R q (ω b) → R' q (ω' b) ∧ w'.heap[b]? = w.heap[b]?) → Rep w' ω' R' d v := by
  induction h with
  | v R x h1 => intro R' _; exact .v R' x h1
  | nil R k a => intro R' _; exact .nil R' k a
  | row R k es b off cap arr ty fr us hb hR hc hs hk hu hd ih =>
    intro R' hf
    have hlt : b < w.heap.size := by
      rcases Nat.lt_or_ge b w.heap.size with h | h
      · exact h
      · simp [Array.getElem?_eq_none h] at hb
    obtain ⟨h1, h2⟩ := hf b [] hlt hR
    exact .row R' k es b off cap arr ty fr us (h2.trans hb) h1 hc hs hk hu (fun i j d hd' => ih i j d hd' (fun b q hl hq => hf b ((i, j) :: q) hl hq))

inductive Tag where
  | free
  | own (t : Nat)
  | ro (t : Nat)

def Tag.R : Tag → List (Nat × Nat) → Owner → Prop
  | .free, _, o => o = .imm
  | .own t, q, o => o = .tok t q
  | .ro t, _, o => o = .imm ∨ ∃ q, o = .tok t q

def Tag.hdr (τ : Nat → Nat × Value) : Tag → Nat × Value → Prop
  | .own t, y => τ t = y
  | _, _ => True

inductive Leaf where
  | und
  | v (x : Value)
  | sb (c : Bool)
  | sl (t : Tag) (k : Nat) (es : List (List D))
  | ptr (id off : Nat)
  | ep (t : Tag) (k : Nat) (es : List (List D)) (i j : Nat)

def Sat (w : World) (ω : Own) (τ : Nat → Nat × Value) : Leaf → Value → Prop
  | .und, _ => True
  | .v x, y => y = x
  | .sb c, y => y = .bool c
  | .sl t k es, y => Rep w ω t.R (.sl k es) y ∧ t.hdr τ (k, y)
  | .ptr id off, y => ∃ b, ω b = .box id ∧ y = .pointer (some ⟨b, off, none⟩)
  | .ep t k es i j, y => ∃ b off cap, y = .pointer (some ⟨b, off + i * k + j, none⟩) ∧ i < es.length ∧
      Rep w ω t.R (.sl k es) (.slice (some ⟨b, off, none⟩) es.length cap) ∧ t.hdr τ (k, .slice (some ⟨b, off, none⟩) es.length cap)

/-- A value in a slot: one cell, or a struct. -/
inductive AL where
  | one (l : Leaf)
  | agg (ls : List Leaf)

inductive PV where
  | al (a : AL)
  | tup (as : List AL)

abbrev PV.one (l : Leaf) : PV := .al (.one l)
abbrev PV.agg (ls : List Leaf) : PV := .al (.agg ls)
abbrev PV.und : PV := .al (.one .und)

def SatL (S : Leaf → Value → Prop) (ls : List Leaf) (vs : Array Value) : Prop :=
  vs.size = ls.length ∧ ∀ (i : Nat) (l : Leaf), ls[i]? = some l → ∃ u, vs[i]? = some u ∧ S l u

def SatA (S : Leaf → Value → Prop) : AL → Value → Prop
  | .one l, y => S l y
  | .agg ls, y => ∃ vs, y = .agg vs ∧ SatL S ls vs

def SatP (S : Leaf → Value → Prop) : PV → Value → Prop
  | .al a, y => SatA S a y
  | .tup as, y => ∃ vs : Array Value, y = .tuple vs ∧ vs.size = as.length ∧ ∀ (i : Nat) (a : AL), as[i]? = some a → ∃ u, vs[i]? = some u ∧ SatA S a u

structure St where
  env : List PV
  boxes : List (Nat × List Leaf)

def getBox (id : Nat) : List (Nat × List Leaf) → Option (List Leaf)
  | [] => none
  | (i, ls) :: r => if i = id then some ls else getBox id r

def AL.map (f : Leaf → Leaf) : AL → AL
  | .one l => .one (f l)
  | .agg ls => .agg (ls.map f)
def PV.map (f : Leaf → Leaf) : PV → PV
  | .al a => .al (a.map f)
  | .tup as => .tup (as.map (AL.map f))
def St.map (f : Leaf → Leaf) (s : St) : St := ⟨s.env.map (PV.map f), s.boxes.map fun x => (x.1, x.2.map f)⟩

theorem SatL.map {S S' : Leaf → Value → Prop} {f : Leaf → Leaf} (h : ∀ l v, S l v → S' (f l) v) {ls : List Leaf} {vs : Array Value} (hs : SatL S ls vs) : SatL S' (ls.map f) vs := by
  refine ⟨by simpa using hs.1, fun i l hl => ?_⟩
  rw [List.getElem?_map, Option.map_eq_some_iff] at hl
  obtain ⟨l0, h0, rfl⟩ := hl
  obtain ⟨u, h1, h2⟩ := hs.2 i l0 h0
  exact ⟨u, h1, h _ _ h2⟩

theorem SatA.map {S S' : Leaf → Value → Prop} {f : Leaf → Leaf} (h : ∀ l v, S l v → S' (f l) v) : ∀ {a : AL} {y : Value}, SatA S a y → SatA S' (a.map f) y
  | .one l, y, hs => h _ _ hs
  | .agg ls, y, ⟨vs, e, hs⟩ => ⟨vs, e, hs.map h⟩

theorem SatP.map {S S' : Leaf → Value → Prop} {f : Leaf → Leaf} (h : ∀ l v, S l v → S' (f l) v) : ∀ {p : PV} {y : Value}, SatP S p y → SatP S' (p.map f) y
  | .al a, y, hs => show SatA S' (a.map f) y from SatA.map h (show SatA S a y from hs)
  | .tup as, y, ⟨vs, e, hn, hs⟩ => ⟨vs, e, by simpa using hn, fun i a ha => by
      rw [List.getElem?_map, Option.map_eq_some_iff] at ha
      obtain ⟨a0, h0, rfl⟩ := ha
      obtain ⟨u, h1, h2⟩ := hs i a0 h0
      exact ⟨u, h1, SatA.map h h2⟩⟩

theorem getBox_map (f : Leaf → Leaf) (id : Nat) : ∀ bs : List (Nat × List Leaf), getBox id (bs.map fun x => (x.1, x.2.map f)) = (getBox id bs).map (·.map f)
  | [] => rfl
  | (i, ls) :: r => by
    simp only [List.map_cons, getBox]
    split
    · rfl
    · exact getBox_map f id r

/-- What memory looks like: owned blocks are the call's own, and not frozen. -/
def Owned (w0 w : World) (ω : Own) : Prop := ∀ b, ω b ≠ .imm → w0.heap.size ≤ b ∧ ∃ arr ty, w.heap[b]? = some (.cells arr ty (0, 0))

def BoxOk (w : World) (ω : Own) (τ : Nat → Nat × Value) (id : Nat) (ls : List Leaf) : Prop :=
  ∃ b arr ty, ω b = .box id ∧ (∀ b', ω b' = .box id → b' = b) ∧ w.heap[b]? = some (.cells arr ty (0, 0)) ∧ SatL (Sat w ω τ) ls arr

structure RelAt (w0 : World) (st : St) (a : Act) (w : World) (ω : Own) (τ : Nat → Nat × Value) : Prop where
  defers : a.defers = []
  size : a.tmps.size = st.env.length
  below : Below w0.heap.size w0 w
  owned : Owned w0 w ω
  env : ∀ (i : Nat) (p : PV), st.env[i]? = some p → ∃ v, a.tmps[i]? = some v ∧ SatP (Sat w ω τ) p v
  boxes : ∀ id ls, getBox id st.boxes = some ls → BoxOk w ω τ id ls

def Rel (w0 : World) (st : St) (a : Act) (w : World) : Prop := ∃ ω τ, RelAt w0 st a w ω τ

theorem Owned.lt {w0 w : World} {ω : Own} (h : Owned w0 w ω) {b : Nat} (hb : ω b ≠ .imm) : b < w.heap.size := by
  obtain ⟨_, arr, ty, e⟩ := h b hb
  rcases Nat.lt_or_ge b w.heap.size with h | h
  · exact h
  · simp [Array.getElem?_eq_none h] at e

theorem Owned.fresh {w0 w : World} {ω : Own} (h : Owned w0 w ω) {b : Nat} (hb : w.heap.size ≤ b) : ω b = .imm := by
  cases e : ω b with
  | imm => rfl
  | box id => have := h.lt (b := b) (by simp [e]); omega
  | tok t q => have := h.lt (b := b) (by simp [e]); omega
end Go.Sx
