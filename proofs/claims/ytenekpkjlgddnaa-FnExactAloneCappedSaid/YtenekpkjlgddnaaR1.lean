/- A frame for symbolic execution: pure data, who owns which block, what a slot holds. Over any program. -/
import Derived.WalkKit
import Derived.WalkSpells
import Derived.WalkLawsBesides
import Derived.KernelRfl
set_option linter.unusedVariables false
set_option linter.unusedSimpArgs false
namespace Go.Sx
open Go.RowKit

/-- Pure data: a leaf (a value without memory), a slice of elements of k cells each, a pointer to a variable of these cells, a function value with what it captured. -/
inductive D where
  | v (x : Value)
  | sl (k : Nat) (es : List (List D))
  | ptr (ds : List D)
  | cl (g : FuncId) (caps : List D)

/-- The owner of a block: nobody (never written), a local variable's box, or a tree of slices (which one, and the place in it). -/
inductive Owner where
  | imm
  | box (id : Nat)
  | tok (t : Nat) (q : List (Nat × Nat))

abbrev Own := Nat → Owner

def cellAt (es : List (List D)) (i j : Nat) : Option D := (es[i]?).bind (·[j]?)

inductive Rep (w : World) (ω : Own) : (List (Nat × Nat) → Owner → Prop) → D → Value → Prop
  | v (R : List (Nat × Nat) → Owner → Prop) (x : Value) (h1 : x.oneCell' = true) : Rep w ω R (.v x) x
  | nil (R : List (Nat × Nat) → Owner → Prop) (k : Nat) (a : Option Addr) : Rep w ω R (.sl k []) (.slice a 0 0)
  | row (R : List (Nat × Nat) → Owner → Prop) (k : Nat) (es : List (List D)) (b off cap : Nat) (arr : Array Value) (ty : TypeId) (fr : Nat × Nat) (us : Nat → Nat → Value)
      (hb : w.heap[b]? = some (.cells arr ty fr)) (hR : R [] (ω b)) (hc : es.length ≤ cap) (hs : off + cap * k ≤ arr.size) (hk : ∀ e ∈ es, e.length = k)
      (hu : ∀ i j d, cellAt es i j = some d → arr[off + i * k + j]? = some (us i j))
      (hd : ∀ i j d, cellAt es i j = some d → Rep w ω (fun q => R ((i, j) :: q)) d (us i j)) :
      Rep w ω R (.sl k es) (.slice (some ⟨b, off, none⟩) es.length cap)
  | ptr (R : List (Nat × Nat) → Owner → Prop) (ds : List D) (b : Nat) (arr : Array Value) (ty : TypeId) (fr : Nat × Nat) (us : Nat → Value)
      (hb : w.heap[b]? = some (.cells arr ty fr)) (hR : R [] (ω b)) (hs : arr.size = ds.length)
      (hu : ∀ j d, ds[j]? = some d → arr[j]? = some (us j)) (hd : ∀ j d, ds[j]? = some d → Rep w ω (fun q => R ((0, j) :: q)) d (us j)) :
      Rep w ω R (.ptr ds) (.pointer (some ⟨b, 0, none⟩))
  | cl (R : List (Nat × Nat) → Owner → Prop) (g : FuncId) (caps : List D) (cs : Array Value) (us : Nat → Value) (hs : cs.size = caps.length)
      (hu : ∀ j d, caps[j]? = some d → cs[j]? = some (us j)) (hd : ∀ j d, caps[j]? = some d → Rep w ω (fun q => R ((0, j) :: q)) d (us j)) :
      Rep w ω R (.cl g caps) (.func (.func g) #[] cs)

/-- Reading goes on where the blocks that it meets are as they were, and their owners are turned as the reading asks. -/
theorem Rep.frame {w w' : World} {ω ω' : Own} {R : List (Nat × Nat) → Owner → Prop} {d : D} {v : Value} (h : Rep w ω R d v) :
    ∀ {R' : List (Nat × Nat) → Owner → Prop}, (∀ b q, b < w.heap.size → R q (ω b) → R' q (ω' b) ∧ w'.heap[b]? = w.heap[b]?) → Rep w' ω' R' d v := by
  induction h with
  | v R x h1 => intro R' _; exact .v R' x h1
  | nil R k a => intro R' _; exact .nil R' k a
  | row R k es b off cap arr ty fr us hb hR hc hs hk hu hd ih =>
    intro R' hf
    have hlt : b < w.heap.size := by
      rcases Nat.lt_or_ge b w.heap.size with h | h
      · exact h
      · simp [Array.getElem?_eq_none h] at hb
    obtain ⟨h1, h2⟩ := hf b [] hlt hR
    exact .row R' k es b off cap arr ty fr us (h2.trans hb) h1 hc hs hk hu (fun i j d hd' => ih i j d hd' (fun b q hl hq => hf b ((i, j) :: q) hl hq))
  | ptr R ds b arr ty fr us hb hR hs hu hd ih =>
    intro R' hf
    have hlt : b < w.heap.size := by
      rcases Nat.lt_or_ge b w.heap.size with h | h
      · exact h
      · simp [Array.getElem?_eq_none h] at hb
    obtain ⟨h1, h2⟩ := hf b [] hlt hR
    exact .ptr R' ds b arr ty fr us (h2.trans hb) h1 hs hu (fun j d hd' => ih j d hd' (fun b q hl hq => hf b ((0, j) :: q) hl hq))
  | cl R g caps cs us hs hu hd ih =>
    intro R' hf
    exact .cl R' g caps cs us hs hu (fun j d hd' => ih j d hd' (fun b q hl hq => hf b ((0, j) :: q) hl hq))

inductive Tag where
  | free
  | own (t : Nat)
  | ro (t : Nat)

def Tag.R : Tag → List (Nat × Nat) → Owner → Prop
  | .free, _, o => o = .imm
  | .own t, q, o => o = .tok t q
  | .ro t, _, o => o = .imm ∨ ∃ q, o = .tok t q

def Tag.hdr (τ : Nat → Nat × Value) : Tag → Nat × Value → Prop
  | .own t, y => τ t = y
  | _, _ => True

/-- From here on a token stands for a tree that was handed over: its header does not turn. -/
def giv : Nat := 1000000000

/-- A cell of a new variable, until it is laid. -/
inductive NC where
  | und
  | v (x : Value)
  | sl (t : Tag) (k : Nat) (es : List (List D))

/-- How a leaf stands to a slice in a tree: it is what stands there; it is another of that place's colour; it points into what stands there. -/
inductive SM where
  | here
  | away
  | at_ (x y : Nat)

def SM.rel (k n : Nat) : SM → Value → Value → Prop
  | .at_ x y, u, v => ∃ b off cap, u = .slice (some ⟨b, off, none⟩) n cap ∧ v = .pointer (some ⟨b, off + x * k + y, none⟩) ∧ x < n
  | _, u, v => v = u

def SM.home : SM → Bool
  | .away => false
  | _ => true

inductive Leaf where
  | und
  | v (x : Value)
  | sb (c : Bool)
  | sl (t : Tag) (k : Nat) (es : List (List D))
  | ptr (id off : Nat)
  | ep (t : Tag) (k : Nat) (es : List (List D)) (i j : Nat)
  | rp (ds : List D) (off : Nat)
  | fd (d : D)
  | clo (g : FuncId) (ids : List Nat)
  | sn (t i j k : Nat) (es : List (List D)) (m : SM)
  | np (t : Nat) (vs : List NC)
  | sv (t k : Nat) (es : List (List D))

/-- A pointer to a block. -/
def ptrTo (b : Nat) : Value := .pointer (some ⟨b, 0, none⟩)

def NCSat (w : World) (ω : Own) (τ : Nat → Nat × Value) : NC → Value → Prop
  | .und, _ => True
  | .v x, y => y = x
  | .sl t k es, y => Rep w ω t.R (.sl k es) y ∧ t.hdr τ (k, y)

/-- The slice u stands in the tree t, in the cell j of its element i. -/
def HomeAt (w : World) (ω : Own) (τ : Nat → Nat × Value) (t i j : Nat) (u : Value) : Prop :=
  ∃ (kT b off len cap : Nat) (arr : Array Value) (ty : TypeId) (fr : Nat × Nat), τ t = (kT, .slice (some ⟨b, off, none⟩) len cap) ∧ ω b = .tok t [] ∧ w.heap[b]? = some (.cells arr ty fr) ∧ arr[off + i * kT + j]? = some u

def Sat (w : World) (ω : Own) (τ : Nat → Nat × Value) : Leaf → Value → Prop
  | .und, _ => True
  | .v x, y => y = x
  | .sb c, y => y = .bool c
  | .sl t k es, y => Rep w ω t.R (.sl k es) y ∧ t.hdr τ (k, y)
  | .ptr id off, y => ∃ b, ω b = .box id ∧ y = .pointer (some ⟨b, off, none⟩)
  | .ep t k es i j, y => ∃ b off cap, y = .pointer (some ⟨b, off + i * k + j, none⟩) ∧ i < es.length ∧
      Rep w ω t.R (.sl k es) (.slice (some ⟨b, off, none⟩) es.length cap) ∧ t.hdr τ (k, .slice (some ⟨b, off, none⟩) es.length cap)
  | .rp ds off, y => ∃ b, y = .pointer (some ⟨b, off, none⟩) ∧ Rep w ω Tag.free.R (.ptr ds) (ptrTo b)
  | .fd d, y => Rep w ω Tag.free.R d y
  | .clo g ids, y => ∃ bs : List Nat, y = .func (.func g) #[] (bs.map ptrTo).toArray ∧ bs.length = ids.length ∧ ∀ (i : Nat) (id : Nat), ids[i]? = some id → ∃ b, bs[i]? = some b ∧ ω b = .box id
  | .sv t k es, y => Rep w ω Tag.free.R (.sl k es) y ∧ (giv ≤ t → τ t = (k, y))
  | .sn t i j k es m, y => ∃ u, m.rel k es.length u y ∧ Rep w ω (fun q o => o = .tok t ((i, j) :: q)) (.sl k es) u ∧ (m.home = true → HomeAt w ω τ t i j u)
  | .np t vs, y => ∃ (b : Nat) (ty : TypeId) (arr : Array Value), y = ptrTo b ∧ ω b = .tok t [] ∧ w.heap[b]? = some (.cells arr ty (0, 0)) ∧ arr.size = vs.length ∧ ∀ (j : Nat) (c : NC), vs[j]? = some c → ∃ u, arr[j]? = some u ∧ NCSat w ω τ c u

/-- A value in a slot: one cell, or a struct. -/
inductive AL where
  | one (l : Leaf)
  | agg (ls : List Leaf)

inductive PV where
  | al (a : AL)
  | tup (as : List AL)

abbrev PV.one (l : Leaf) : PV := .al (.one l)
abbrev PV.agg (ls : List Leaf) : PV := .al (.agg ls)
abbrev PV.und : PV := .al (.one .und)

def SatL (S : Leaf → Value → Prop) (ls : List Leaf) (vs : Array Value) : Prop :=
  vs.size = ls.length ∧ ∀ (i : Nat) (l : Leaf), ls[i]? = some l → ∃ u, vs[i]? = some u ∧ S l u

def SatA (S : Leaf → Value → Prop) : AL → Value → Prop
  | .one l, y => S l y
  | .agg ls, y => ∃ vs, y = .agg vs ∧ SatL S ls vs

def SatP (S : Leaf → Value → Prop) : PV → Value → Prop
  | .al a, y => SatA S a y
  | .tup as, y => ∃ vs : Array Value, y = .tuple vs ∧ vs.size = as.length ∧ ∀ (i : Nat) (a : AL), as[i]? = some a → ∃ u, vs[i]? = some u ∧ SatA S a u

structure St where
  env : List PV
  boxes : List (Nat × List Leaf)

def getBox (id : Nat) : List (Nat × List Leaf) → Option (List Leaf)
  | [] => none
  | (i, ls) :: r => if i = id then some ls else getBox id r

def AL.map (f : Leaf → Leaf) : AL → AL
  | .one l => .one (f l)
  | .agg ls => .agg (ls.map f)
def PV.map (f : Leaf → Leaf) : PV → PV
  | .al a => .al (a.map f)
  | .tup as => .tup (as.map (AL.map f))
def St.map (f : Leaf → Leaf) (s : St) : St := ⟨s.env.map (PV.map f), s.boxes.map fun x => (x.1, x.2.map f)⟩

theorem SatL.map {S S' : Leaf → Value → Prop} {f : Leaf → Leaf} (h : ∀ l v, S l v → S' (f l) v) {ls : List Leaf} {vs : Array Value} (hs : SatL S ls vs) : SatL S' (ls.map f) vs := by
  refine ⟨by simpa using hs.1, fun i l hl => ?_⟩
  rw [List.getElem?_map, Option.map_eq_some_iff] at hl
  obtain ⟨l0, h0, rfl⟩ := hl
  obtain ⟨u, h1, h2⟩ := hs.2 i l0 h0
  exact ⟨u, h1, h _ _ h2⟩

theorem SatA.map {S S' : Leaf → Value → Prop} {f : Leaf → Leaf} (h : ∀ l v, S l v → S' (f l) v) : ∀ {a : AL} {y : Value}, SatA S a y → SatA S' (a.map f) y
  | .one l, y, hs => h _ _ hs
  | .agg ls, y, ⟨vs, e, hs⟩ => ⟨vs, e, hs.map h⟩

theorem SatP.map {S S' : Leaf → Value → Prop} {f : Leaf → Leaf} (h : ∀ l v, S l v → S' (f l) v) : ∀ {p : PV} {y : Value}, SatP S p y → SatP S' (p.map f) y
  | .al a, y, hs => show SatA S' (a.map f) y from SatA.map h (show SatA S a y from hs)
  | .tup as, y, ⟨vs, e, hn, hs⟩ => ⟨vs, e, by simpa using hn, fun i a ha => by
      rw [List.getElem?_map, Option.map_eq_some_iff] at ha
      obtain ⟨a0, h0, rfl⟩ := ha
      obtain ⟨u, h1, h2⟩ := hs i a0 h0
      exact ⟨u, h1, SatA.map h h2⟩⟩

theorem getBox_map (f : Leaf → Leaf) (id : Nat) : ∀ bs : List (Nat × List Leaf), getBox id (bs.map fun x => (x.1, x.2.map f)) = (getBox id bs).map (·.map f)
  | [] => rfl
  | (i, ls) :: r => by
    simp only [List.map_cons, getBox]
    split
    · rfl
    · exact getBox_map f id r

/-- Where a call begins: the world, and the blocks that are handed over to it. -/
structure Base where
  w : World
  G : Nat → Prop
  H : Nat → Nat × Value

/-- A block that the call may write. -/
def Base.mine (B : Base) (b : Nat) : Prop := B.w.heap.size ≤ b ∨ B.G b

/-- What lies below is as it was; the call may draw. -/
structure Blw (n : Nat) (w w' : World) : Prop where
  below : Below n w w'
  drawn : w.drawn ≤ w'.drawn
theorem Blw.size {n : Nat} {w w' : World} (h : Blw n w w') : w.heap.size ≤ w'.heap.size := h.below.size
theorem Blw.block {n : Nat} {w w' : World} (h : Blw n w w') : ∀ k, k < n → w'.heap[k]? = w.heap[k]? := h.below.block
theorem Blw.refl (n : Nat) (w : World) : Blw n w w := ⟨Below.refl _ _, Nat.le_refl _⟩
theorem Blw.drew {n : Nat} {w w' : World} (h : Blw n w w') : Blw n w w'.drew := ⟨h.below.drew, Nat.le_succ_of_le h.drawn⟩
theorem Blw.alloc {n : Nat} {w w' : World} (h : Blw n w w') (hn : n ≤ w'.heap.size) (o : Obj) : Blw n w (w'.alloc o) := ⟨h.below.alloc hn o, h.drawn⟩

/-- All but what the call may write is as it was. -/
structure Bel (B : Base) (w : World) : Prop where
  os : w.os = B.w.os
  tape : w.tape = B.w.tape
  output : w.output = B.w.output
  size : B.w.heap.size ≤ w.heap.size
  block : ∀ k, k < B.w.heap.size → ¬ B.G k → w.heap[k]? = B.w.heap[k]?
  drawn : B.w.drawn ≤ w.drawn

theorem Bel.next {B : Base} {w w' : World} (h : Bel B w) (k : Blw w.heap.size w w') : Bel B w' :=
  ⟨k.below.os.trans h.os, k.below.tape.trans h.tape, k.below.output.trans h.output, Nat.le_trans h.size k.below.size, fun i hi hg => (k.below.block i (Nat.lt_of_lt_of_le hi h.size)).trans (h.block i hi hg), Nat.le_trans h.drawn k.drawn⟩

/-- Nothing is handed over. -/
def Base.of (w : World) : Base := ⟨w, fun _ => False, fun _ => (0, undef)⟩

theorem Bel.refl (B : Base) : Bel B B.w := ⟨rfl, rfl, rfl, Nat.le_refl _, fun _ _ _ => rfl, Nat.le_refl _⟩

theorem Bel.below {w w' : World} (h : Bel (Base.of w) w') : Blw w.heap.size w w' := ⟨⟨h.os, h.tape, h.output, h.size, fun k hk => h.block k hk (fun h => h)⟩, h.drawn⟩

theorem Bel.setRow {B : Base} {w : World} (h : Bel B w) {b : Nat} (hb : B.mine b) (arr : Array Value) : Bel B (w.setRow b arr) :=
  ⟨h.os, h.tape, h.output, by simpa using h.size, fun k hk hg => by
    have : k ≠ b := by
      rintro rfl
      rcases hb with hb | hb
      · omega
      · exact hg hb
    rw [setRow_other w b k arr this]
    exact h.block k hk hg, h.drawn⟩

/-- What memory looks like: owned blocks are the call's own, and not frozen. -/
def Owned (w0 : Base) (w : World) (ω : Own) : Prop := ∀ b, ω b ≠ .imm → w0.mine b ∧ ∃ arr ty, w.heap[b]? = some (.cells arr ty (0, 0))

def BoxOk (w : World) (ω : Own) (τ : Nat → Nat × Value) (id : Nat) (ls : List Leaf) : Prop :=
  ∃ b arr ty, ω b = .box id ∧ (∀ b', ω b' = .box id → b' = b) ∧ w.heap[b]? = some (.cells arr ty (0, 0)) ∧ SatL (Sat w ω τ) ls arr

structure RelAt (w0 : Base) (st : St) (a : Act) (w : World) (ω : Own) (τ : Nat → Nat × Value) : Prop where
  defers : a.defers = []
  size : a.tmps.size = st.env.length
  below : Bel w0 w
  owned : Owned w0 w ω
  fixed : ∀ t, giv ≤ t → τ t = w0.H t
  pinned : ∀ id b, giv ≤ id → ω b = .box id → (w0.H id).1 = b
  env : ∀ (i : Nat) (p : PV), st.env[i]? = some p → ∃ v, a.tmps[i]? = some v ∧ SatP (Sat w ω τ) p v
  boxes : ∀ id ls, getBox id st.boxes = some ls → BoxOk w ω τ id ls

def Rel (w0 : Base) (st : St) (a : Act) (w : World) : Prop := ∃ ω τ, RelAt w0 st a w ω τ

theorem Owned.lt {w0 : Base} {w : World} {ω : Own} (h : Owned w0 w ω) {b : Nat} (hb : ω b ≠ .imm) : b < w.heap.size := by
  obtain ⟨_, arr, ty, e⟩ := h b hb
  rcases Nat.lt_or_ge b w.heap.size with h | h
  · exact h
  · simp [Array.getElem?_eq_none h] at e

theorem Owned.fresh {w0 : Base} {w : World} {ω : Own} (h : Owned w0 w ω) {b : Nat} (hb : w.heap.size ≤ b) : ω b = .imm := by
  cases e : ω b with
  | imm => rfl
  | box id => have := h.lt (b := b) (by simp [e]); omega
  | tok t q => have := h.lt (b := b) (by simp [e]); omega
end Go.Sx

namespace Go.Sx
open Go.RowKit

def NC.re (g : Tag → Option Tag) : NC → NC
  | .sl t k es => match g t with | some t' => .sl t' k es | none => .und
  | c => c

/-- A leaf whose tag is turned: gone where g says none; a pointer to a box stays where p says so. -/
def Leaf.re (g : Tag → Option Tag) (p : Nat → Bool) : Leaf → Leaf
  | .sl t k es => match g t with | some t' => .sl t' k es | none => .und
  | .ep t k es i j => match g t with | some t' => .ep t' k es i j | none => .und
  | .ptr id off => if p id then .ptr id off else .und
  | .clo f ids => if ids.all p then .clo f ids else .und
  | .sn t i j k es m => match g (.own t) with | some (.own t') => if t' = t then .sn t i j k es m else .und | _ => .und
  | .np t vs => match g (.own t) with | some (.own t') => if t' = t then .np t (vs.map (NC.re g)) else .und | _ => .und
  | l => l

structure Evolve (w : World) (ω : Own) (τ : Nat → Nat × Value) (w' : World) (ω' : Own) (τ' : Nat → Nat × Value) (g : Tag → Option Tag) (p : Nat → Bool) : Prop where
  rep : ∀ t t' b q, g t = some t' → b < w.heap.size → t.R q (ω b) → t'.R q (ω' b) ∧ w'.heap[b]? = w.heap[b]?
  hdr : ∀ t t' y, g t = some t' → t.hdr τ y → t'.hdr τ' y
  box : ∀ id b, p id = true → ω b = .box id → ω' b = .box id
  free : g .free = some .free
  fix : ∀ t, giv ≤ t → τ' t = τ t

theorem nc_map {w w' : World} {ω ω' : Own} {τ τ' : Nat → Nat × Value} {g : Tag → Option Tag} (h : ∀ c u, NCSat w ω τ c u → NCSat w' ω' τ' (NC.re g c) u) {arr : Array Value} {vs : List NC}
    (hn : arr.size = vs.length) (hv : ∀ (j : Nat) (c : NC), vs[j]? = some c → ∃ u, arr[j]? = some u ∧ NCSat w ω τ c u) :
    arr.size = (vs.map (NC.re g)).length ∧ ∀ (j : Nat) (c : NC), (vs.map (NC.re g))[j]? = some c → ∃ u, arr[j]? = some u ∧ NCSat w' ω' τ' c u := by
  refine ⟨by simpa using hn, fun j c hc => ?_⟩
  rw [List.getElem?_map, Option.map_eq_some_iff] at hc
  obtain ⟨c0, h0, rfl⟩ := hc
  obtain ⟨u, h1, h2⟩ := hv j c0 h0
  exact ⟨u, h1, h c0 u h2⟩

theorem Evolve.nc {w w' : World} {ω ω' : Own} {τ τ' : Nat → Nat × Value} {g : Tag → Option Tag} {p : Nat → Bool} (h : Evolve w ω τ w' ω' τ' g p) (c : NC) (u : Value) (hs : NCSat w ω τ c u) : NCSat w' ω' τ' (NC.re g c) u := by
  cases c with
  | und => exact trivial
  | v x => exact hs
  | sl t k es =>
    simp only [NC.re]
    cases hg : g t with
    | none => exact trivial
    | some t' => exact ⟨hs.1.frame fun b q hb hq => h.rep t t' b q hg hb hq, h.hdr t t' _ hg hs.2⟩

theorem Evolve.sat {w w' : World} {ω ω' : Own} {τ τ' : Nat → Nat × Value} {g : Tag → Option Tag} {p : Nat → Bool} (h : Evolve w ω τ w' ω' τ' g p) :
    ∀ (l : Leaf) (v : Value), Sat w ω τ l v → Sat w' ω' τ' (l.re g p) v := by
  intro l v hs
  cases l with
  | und => exact trivial
  | v x => exact hs
  | sb c => exact hs
  | sl t k es =>
    simp only [Leaf.re]
    cases hg : g t with
    | none => exact trivial
    | some t' => exact ⟨hs.1.frame fun b q hb hq => h.rep t t' b q hg hb hq, h.hdr t t' _ hg hs.2⟩
  | ptr id off =>
    simp only [Leaf.re]
    split
    · obtain ⟨b, hb, e⟩ := hs
      exact ⟨b, h.box id b ‹_› hb, e⟩
    · exact trivial
  | clo f ids =>
    simp only [Leaf.re]
    split
    · rename_i hp
      obtain ⟨bs, e, hn, hi⟩ := hs
      refine ⟨bs, e, hn, fun i id hid => ?_⟩
      obtain ⟨b, h1, h2⟩ := hi i id hid
      exact ⟨b, h1, h.box id b (List.all_eq_true.1 hp id (List.mem_of_getElem? hid)) h2⟩
    · exact trivial
  | rp ds off =>
    obtain ⟨b, e, hr⟩ := hs
    exact ⟨b, e, hr.frame fun b q hb hq => h.rep .free .free b q h.free hb hq⟩
  | fd d => exact Rep.frame hs fun b q hb hq => h.rep .free .free b q h.free hb hq
  | sv t k es => exact ⟨hs.1.frame fun b q hb hq => h.rep .free .free b q h.free hb hq, fun ht => (h.fix t ht).trans (hs.2 ht)⟩
  | sn t i j k es m =>
    simp only [Leaf.re]
    split
    · rename_i t' hg
      split
      · rename_i ht
        subst ht
        obtain ⟨u, hu, h1, hm⟩ := hs
        refine ⟨u, hu, h1.frame fun c q hc hq => h.rep _ _ c _ hg hc hq, fun hh => ?_⟩
        obtain ⟨kT, b, off, len, cap, arr, ty, fr, h2, h5, h3, h4⟩ := hm hh
        have hlt : b < w.heap.size := (Array.getElem?_eq_some_iff.1 h3).1
        have hk := h.rep _ _ b [] hg hlt h5
        exact ⟨kT, b, off, len, cap, arr, ty, fr, h.hdr _ _ _ hg h2, hk.1, hk.2.trans h3, h4⟩
      · exact trivial
    · exact trivial
  | np t vs =>
    simp only [Leaf.re]
    split
    · rename_i t' hg
      split
      · rename_i ht
        subst ht
        obtain ⟨b, ty, arr, e, h5, h3, hn, hv⟩ := hs
        have hlt : b < w.heap.size := (Array.getElem?_eq_some_iff.1 h3).1
        have hk := h.rep _ _ b [] hg hlt h5
        exact ⟨b, ty, arr, e, hk.1, hk.2.trans h3, nc_map (h.nc) hn hv⟩
      · exact trivial
    · exact trivial
  | ep t k es i j =>
    simp only [Leaf.re]
    cases hg : g t with
    | none => exact trivial
    | some t' =>
      obtain ⟨b, off, cap, e, hi, hr, hh⟩ := hs
      exact ⟨b, off, cap, e, hi, hr.frame fun b q hb hq => h.rep t t' b q hg hb hq, h.hdr t t' _ hg hh⟩

theorem getElem?_put {a : Act} {d : Nat} {v : Value} {i : Nat} : (a.put (some d) v).tmps[i]? = if d = i ∧ i < a.tmps.size then some v else a.tmps[i]? := by
  simp only [Act.put, Array.getElem?_setIfInBounds]
  by_cases h : d = i
  · subst h
    by_cases h2 : d < a.tmps.size
    · simp [h2]
    · simp [h2]
  · simp [h]

theorem RelAt.put {w0 : Base} {st : St} {a : Act} {w : World} {ω : Own} {τ : Nat → Nat × Value} (h : RelAt w0 st a w ω τ) {d : Nat} {p : PV} {v : Value} (hs : SatP (Sat w ω τ) p v) :
    RelAt w0 ⟨st.env.set d p, st.boxes⟩ (a.put (some d) v) w ω τ where
  defers := h.defers
  size := by simp [Act.put, h.size]
  below := h.below
  owned := h.owned
  fixed := h.fixed
  pinned := h.pinned
  boxes := h.boxes
  env := by
    intro i q hq
    rw [List.getElem?_set] at hq
    rw [getElem?_put]
    by_cases hd : d = i
    · subst hd
      simp only [if_true] at hq
      split at hq
      · rename_i hlt
        have e := Option.some.inj hq
        subst e
        exact ⟨v, by rw [if_pos ⟨rfl, by rw [h.size]; exact hlt⟩], hs⟩
      · cases hq
    · rw [if_neg hd] at hq
      rw [if_neg (by simp [hd])]
      exact h.env i q hq

/-- The world turns, leaves are retagged. -/
theorem RelAt.evolve {w0 : Base} {st : St} {a : Act} {w w' : World} {ω ω' : Own} {τ τ' : Nat → Nat × Value} {g : Tag → Option Tag} {p : Nat → Bool}
    (h : RelAt w0 st a w ω τ) (e : Evolve w ω τ w' ω' τ' g p) (hbelow : Bel w0 w') (howned : Owned w0 w' ω') {bs : List (Nat × List Leaf)}
    (hbox : ∀ id ls, getBox id bs = some ls → BoxOk w' ω' τ' id ls) (hpin : ∀ id b, giv ≤ id → ω' b = .box id → ω b = .box id) (hfix : ∀ t, giv ≤ t → τ' t = τ t := by intros; rfl) : RelAt w0 ⟨st.env.map (PV.map (Leaf.re g p)), bs⟩ a w' ω' τ' where
  defers := h.defers
  size := by simp [h.size]
  below := hbelow
  owned := howned
  fixed := fun t ht => (hfix t ht).trans (h.fixed t ht)
  pinned := fun id b hi hb => h.pinned id b hi (hpin id b hi hb)
  boxes := hbox
  env := by
    intro i q hq
    rw [List.getElem?_map, Option.map_eq_some_iff] at hq
    obtain ⟨q0, h0, rfl⟩ := hq
    obtain ⟨v, h1, h2⟩ := h.env i q0 h0
    exact ⟨v, h1, SatP.map e.sat h2⟩

theorem heap_alloc_new' (w : World) (o : Obj) : (w.alloc o).heap[w.heap.size]? = some o := by
  show (w.heap.push o)[_]? = _
  simp
theorem heap_alloc_lt (w : World) (o : Obj) {i : Nat} (h : i < w.heap.size) : (w.alloc o).heap[i]? = w.heap[i]? := Below.heap_alloc w o i h

def eraseBox (id : Nat) : List (Nat × List Leaf) → List (Nat × List Leaf)
  | [] => []
  | (i, ls) :: r => if i = id then eraseBox id r else (i, ls) :: eraseBox id r

theorem getBox_erase_self (id : Nat) : ∀ bs, getBox id (eraseBox id bs) = none
  | [] => rfl
  | (i, ls) :: r => by
    simp only [eraseBox]
    split
    · exact getBox_erase_self id r
    · simp only [getBox]; rw [if_neg ‹_›]; exact getBox_erase_self id r
theorem getBox_erase_ne {id id' : Nat} (h : id' ≠ id) : ∀ bs, getBox id' (eraseBox id bs) = getBox id' bs
  | [] => rfl
  | (i, ls) :: r => by
    simp only [eraseBox, getBox]
    by_cases h1 : i = id
    · rw [if_pos h1, if_neg (by omega)]; exact getBox_erase_ne h r
    · rw [if_neg h1]
      simp only [getBox]
      split
      · rfl
      · exact getBox_erase_ne h r

/-- Keeps every tag; drops pointers to box 'id'. -/
def keepT : Tag → Option Tag := some
def butBox (id : Nat) : Nat → Bool := fun i => decide (i ≠ id)

def St.newBox (st : St) (id : Nat) (ls : List Leaf) : St :=
  let f := Leaf.re keepT (butBox id)
  ⟨st.env.map (PV.map f), (id, ls.map f) :: (eraseBox id st.boxes).map fun x => (x.1, x.2.map f)⟩

theorem RelAt.newBox {w0 : Base} {st : St} {a : Act} {w : World} {ω : Own} {τ : Nat → Nat × Value} (h : RelAt w0 st a w ω τ) (id : Nat) (hid : id < giv) {ls : List Leaf} {arr : Array Value} (ty : TypeId)
    (hs : SatL (Sat w ω τ) ls arr) :
    ∃ ω', RelAt w0 (st.newBox id ls) a (w.alloc (.cells arr ty)) ω' τ ∧ ω' w.heap.size = .box id := by
  let ω' : Own := fun b => if b = w.heap.size then .box id else match ω b with | .box i => if i = id then .imm else .box i | o => o
  have hnew : ω' w.heap.size = .box id := by simp [ω']
  have hold : ∀ b, b < w.heap.size → ω' b = (match ω b with | .box i => if i = id then .imm else .box i | o => o) := by
    intro b hb
    simp only [ω']
    rw [if_neg (by omega)]
  have hother : ∀ b, b ≠ w.heap.size → ω' b = (match ω b with | .box i => if i = id then .imm else .box i | o => o) := by
    intro b hb
    simp only [ω']
    rw [if_neg hb]
  have ev : Evolve w ω τ (w.alloc (.cells arr ty)) ω' τ keepT (butBox id) := by
    refine ⟨?_, ?_, ?_, rfl, fun _ _ => rfl⟩
    · intro t t' b q hg hb hq
      simp only [keepT, Option.some.injEq] at hg
      subst hg
      refine ⟨?_, heap_alloc_lt _ _ hb⟩
      rw [hold b hb]
      cases t with
      | free => simp only [Tag.R] at hq ⊢; rw [hq]
      | own s => simp only [Tag.R] at hq ⊢; rw [hq]
      | ro s =>
        simp only [Tag.R] at hq ⊢
        rcases hq with hq | ⟨q', hq⟩
        · rw [hq]; exact .inl rfl
        · rw [hq]; exact .inr ⟨q', rfl⟩
    · intro t t' y hg hy
      simp only [keepT, Option.some.injEq] at hg
      subst hg; exact hy
    · intro i b hp hb
      have hlt := h.owned.lt (b := b) (by simp [hb])
      rw [hold b hlt, hb]
      simp only [butBox, decide_eq_true_eq] at hp
      simp [hp]
  have hbelow : Bel w0 (w.alloc (.cells arr ty)) := h.below.next ((Blw.refl _ _).alloc (Nat.le_refl _) _)
  have howned : Owned w0 (w.alloc (.cells arr ty)) ω' := by
    intro b hb
    by_cases hn : b = w.heap.size
    · subst hn; exact ⟨.inl h.below.size, arr, ty, heap_alloc_new' _ _⟩
    · rw [hother b hn] at hb
      have h2 : ω b ≠ .imm := by intro e; rw [e] at hb; exact hb rfl
      obtain ⟨h3, arr', ty', e⟩ := h.owned b h2
      exact ⟨h3, arr', ty', (heap_alloc_lt _ _ (h.owned.lt h2)).trans e⟩
  refine ⟨ω', ?_, hnew⟩
  refine h.evolve ev hbelow howned ?_ (fun i b hi hb => ?_)
  case refine_2 =>
    by_cases hn : b = w.heap.size
    · subst hn
      rw [hnew] at hb
      simp only [Owner.box.injEq] at hb
      omega
    · rw [hother b hn] at hb
      cases e : ω b with
      | imm => simp [e] at hb
      | tok t q => simp [e] at hb
      | box j =>
        simp only [e] at hb
        split at hb
        · cases hb
        · exact hb
  intro i ls' hl
  simp only [getBox] at hl
  split at hl
  · rename_i hi
    subst hi
    have e := Option.some.inj hl
    subst e
    refine ⟨w.heap.size, arr, ty, hnew, ?_, heap_alloc_new' _ _, hs.map ev.sat⟩
    intro b' hb'
    by_cases hn : b' = w.heap.size
    · exact hn
    · rw [hother b' hn] at hb'
      cases e : ω b' with
      | imm => simp [e] at hb'
      | tok t q => simp [e] at hb'
      | box j =>
        simp only [e] at hb'
        split at hb'
        · cases hb'
        · rename_i hne; simp only [Owner.box.injEq] at hb'; exact absurd hb' hne
  · rename_i hi
    rw [getBox_map, Option.map_eq_some_iff] at hl
    obtain ⟨ls0, h0, rfl⟩ := hl
    have hne : i ≠ id := fun e => hi e.symm
    rw [getBox_erase_ne hne] at h0
    obtain ⟨b, arr', ty', hb, hu, hh, hsat⟩ := h.boxes i ls0 h0
    have hlt := h.owned.lt (b := b) (by simp [hb])
    refine ⟨b, arr', ty', ev.box i b (by simp [butBox, hne]) hb, ?_, (heap_alloc_lt _ _ hlt).trans hh, hsat.map ev.sat⟩
    intro b' hb'
    by_cases hn : b' = w.heap.size
    · subst hn; rw [hnew] at hb'; simp only [Owner.box.injEq] at hb'; exact absurd hb'.symm hne
    · rw [hother b' hn] at hb'
      refine hu b' ?_
      cases e : ω b' with
      | imm => simp [e] at hb'
      | tok t q => simp [e] at hb'
      | box j =>
        simp only [e] at hb'
        split at hb'
        · cases hb'
        · exact hb'
end Go.Sx

namespace Go.Sx
open Go.RowKit

/-- An argument or a result, as data: one cell, or a struct. -/
inductive AD where
  | one (d : D)
  | agg (ds : List D)

/-- What comes back of a callee that turns variables: values, or a pointer to a new variable. -/
inductive RR where
  | vals (rs : List AD)
  | newp (src : List (Option Nat)) (ds : List D)
abbrev RR.new (ds : List D) : RR := .newp [] ds

/-- How a piece of code is left. -/
inductive Ex where
  | normal
  | exit (id : Nat)
  | ret

/-- What the user answers where a run can not be computed. -/
inductive Ans where
  | own
  | sub
  | resG (pat : List (List (Option (Option (List (List D)))))) (src : Nat) (ds : List D) (rs : List AD)
  | res (rs : List AD)
  | resR (pat : List (Option (List D))) (r : RR)
  | loop (nils : List (Nat × Nat × Nat)) (keep boxes : List Nat) (e : Ex) (st : St)
  | br (b : Bool)
  | el (ds : List D)
  | wr
  | eq (c : Bool)
  | num (n : Int)
  | pv (p : PV)
  | reg (st : St)

def Obs : List Prop → Prop
  | [] => True
  | p :: r => p ∧ Obs r

theorem Obs.append : ∀ {a b : List Prop}, Obs (a ++ b) → Obs a ∧ Obs b
  | [], _, h => ⟨trivial, h⟩
  | _ :: _, _, h => ⟨⟨h.1, (Obs.append h.2).1⟩, (Obs.append h.2).2⟩

abbrev Got := Option (PV × List Ans × List Prop)

def cval : Value → PV
  | .agg cs => .agg (cs.toList.map .v)
  | v => .one (.v v)

def St.ev (st : St) : Operand → PV
  | .tmp t => st.env.getD t .und
  | .const v => cval v
  | .func f => .one (.fd (.cl f []))
  | _ => .und

theorem cval_sat (w : World) (ω : Own) (τ : Nat → Nat × Value) (v : Value) : SatP (Sat w ω τ) (cval v) v := by
  unfold cval
  split
  · rename_i cs
    refine ⟨cs, rfl, by simp, fun i l hl => ?_⟩
    rw [List.getElem?_map, Option.map_eq_some_iff] at hl
    obtain ⟨u, hu, rfl⟩ := hl
    exact ⟨u, by simpa using hu, rfl⟩
  · exact rfl

theorem RelAt.ev {w0 : Base} {st : St} {a : Act} {w : World} {ω : Own} {τ : Nat → Nat × Value} (h : RelAt w0 st a w ω τ) (x : Operand) : SatP (Sat w ω τ) (st.ev x) (a.eval x) := by
  cases x with
  | tmp t =>
    simp only [St.ev, Act.eval]
    cases e : st.env[t]? with
    | none =>
      rw [List.getD_eq_getElem?_getD, e]
      exact trivial
    | some p =>
      obtain ⟨v, hv, hs⟩ := h.env t p e
      rw [List.getD_eq_getElem?_getD, e]
      simpa [Array.getD_eq_getD_getElem?, hv] using hs
  | const v => exact cval_sat w ω τ v
  | global g => exact trivial
  | func f => exact Rep.cl _ f [] #[] (fun _ => undef) rfl (fun j d hd => by simp at hd) (fun j d hd => by simp at hd)

/-- The value of a leaf that has no memory. -/
def Leaf.val : Leaf → Option Value
  | .v x => some x
  | .sb c => some (.bool c)
  | _ => none

theorem Leaf.val_sat {w : World} {ω : Own} {τ : Nat → Nat × Value} {l : Leaf} {x y : Value} (h : l.val = some x) (hs : Sat w ω τ l y) : y = x := by
  cases l <;> simp [Leaf.val] at h
  · subst h; exact hs
  · subst h; exact hs

def PV.leaf : PV → Option Leaf
  | .al (.one l) => some l
  | _ => none

theorem PV.leaf_sat {S : Leaf → Value → Prop} {p : PV} {l : Leaf} {y : Value} (h : p.leaf = some l) (hs : SatP S p y) : S l y := by
  cases p with
  | tup as => cases h
  | al a =>
    cases a with
    | agg ls => cases h
    | one l' => simp only [PV.leaf, Option.some.injEq] at h; subst h; exact hs

def PV.int (p : PV) : Option (IntKind × Int) :=
  match p.leaf with
  | some (.v (.int k n)) => some (k, n)
  | _ => none

theorem PV.int_sat {w : World} {ω : Own} {τ : Nat → Nat × Value} {p : PV} {k : IntKind} {n : Int} {y : Value} (h : p.int = some (k, n)) (hs : SatP (Sat w ω τ) p y) : y = .int k n := by
  unfold PV.int at h
  split at h
  · rename_i k' n' e
    simp only [Option.some.injEq, Prod.mk.injEq] at h
    obtain ⟨rfl, rfl⟩ := h
    exact PV.leaf_sat e hs
  · cases h

def PV.vals : PV → Option (List Value)
  | .al (.agg ls) => ls.mapM Leaf.val
  | _ => none

theorem mapM_vals {w : World} {ω : Own} {τ : Nat → Nat × Value} : ∀ {ls : List Leaf} {xs : List Value}, ls.mapM Leaf.val = some xs → ∀ {vs : List Value}, vs.length = ls.length → (∀ (i : Nat) (l : Leaf), ls[i]? = some l → ∃ u, vs[i]? = some u ∧ Sat w ω τ l u) → vs = xs
  | [], xs, h, vs, hn, _ => by
    simp at h; subst h
    exact List.eq_nil_of_length_eq_zero hn
  | l :: ls, xs, h, vs, hn, hs => by
    rw [List.mapM_cons] at h
    cases e : l.val with
    | none => simp [e] at h
    | some x =>
      cases e2 : ls.mapM Leaf.val with
      | none => simp [e, e2] at h
      | some ys =>
        simp [e, e2] at h
        subst h
        cases vs with
        | nil => simp at hn
        | cons v vs =>
          obtain ⟨u, hu, hsat⟩ := hs 0 l rfl
          simp at hu
          subst hu
          rw [Leaf.val_sat e hsat]
          congr 1
          exact mapM_vals e2 (by simpa using hn) (fun i l' hl => by have := hs (i + 1) l' (by simpa using hl); simpa using this)

theorem PV.vals_sat {w : World} {ω : Own} {τ : Nat → Nat × Value} {p : PV} {xs : List Value} {y : Value} (h : p.vals = some xs) (hs : SatP (Sat w ω τ) p y) : y = .agg xs.toArray := by
  cases p with
  | tup as => cases h
  | al a =>
    cases a with
    | one l => cases h
    | agg ls =>
      obtain ⟨vs, rfl, hn, hv⟩ := hs
      have := mapM_vals (w := w) (ω := ω) (τ := τ) h (vs := vs.toList) (by simpa using hn) (fun i l hl => by obtain ⟨u, h1, h2⟩ := hv i l hl; exact ⟨u, by simpa using h1, h2⟩)
      rw [← this]

def inInt (k : IntKind) (e : Int) : Prop :=
  match k with
  | .i64 => -9223372036854775808 ≤ e ∧ e ≤ 9223372036854775807
  | k => k.wrap e = e

theorem inInt.wrap {k : IntKind} {e : Int} (h : inInt k e) : k.wrap e = e := by
  cases k <;> first | exact h | (simp only [inInt] at h; rw [IntKind.wrap_i64]; omega)

def arith (k : IntKind) (e : Int) (ans : List Ans) : Got :=
  match ans with
  | .wr :: r => some (.one (.v (.int k (k.wrap e))), r, [])
  | _ => some (.one (.v (.int k e)), ans, [inInt k e])

theorem arith_ok {w : World} {ω : Own} {τ : Nat → Nat × Value} {k : IntKind} {e : Int} {ans ans' : List Ans} {p : PV} {obs : List Prop} (h : arith k e ans = some (p, ans', obs)) (ho : Obs obs) : SatP (Sat w ω τ) p (.int k (k.wrap e)) := by
  unfold arith at h
  split at h
  · simp only [Option.some.injEq, Prod.mk.injEq] at h
    obtain ⟨rfl, _, _⟩ := h
    exact rfl
  · simp only [Option.some.injEq, Prod.mk.injEq] at h
    obtain ⟨rfl, _, rfl⟩ := h
    rw [ho.1.wrap]
    exact rfl

/-- '==' and its kin on whatever two values, told by the user. -/
def BinRun (P : Program) (op : BinOp) (t : TypeId) (x y : Operand) (u v : Value) (c : Value) : Prop :=
  ∀ w : World, ((do eqGuard op t x y u v; binOp op t u v : Sem Value)).run P w = .ok c w

def binInt (op : BinOp) (k : IntKind) (x y : Int) (ans : List Ans) : Got :=
  match op with
  | .add => arith k (x + y) ans
  | .sub => arith k (x - y) ans
  | .mul => arith k (x * y) ans
  | .quo => (arith k (x.tdiv y) ans).map fun r => (r.1, r.2.1, (y ≠ 0) :: r.2.2)
  | .rem => some (.one (.v (.int k (x.tmod y))), ans, [y ≠ 0])
  | .eql => some (.one (.sb (x == y)), ans, [])
  | .neq => some (.one (.sb (x != y)), ans, [])
  | .lss => some (.one (.sb (decide (x < y))), ans, [])
  | .leq => some (.one (.sb (decide (x ≤ y))), ans, [])
  | .gtr => some (.one (.sb (decide (x > y))), ans, [])
  | .geq => some (.one (.sb (decide (x ≥ y))), ans, [])
  | _ => none

theorem binInt_ok {P : Program} {w : World} {ω : Own} {τ : Nat → Nat × Value} {op : BinOp} {k : IntKind} {x y : Int} {ans ans' : List Ans} {p : PV} {obs : List Prop} (t : TypeId) (ox oy : Operand)
    (h : binInt op k x y ans = some (p, ans', obs)) (ho : Obs obs) :
    ∃ v, ((do eqGuard op t ox oy (.int k x) (.int k y); binOp op t (.int k x) (.int k y) : Sem Value)).run P w = .ok v w ∧ SatP (Sat w ω τ) p v := by
  rw [eqGuard_at_int]
  simp only [Sem.run_bind, Sem.run_pure, Result.andThen_ok]
  cases op <;> simp only [binInt, Option.some.injEq, Prod.mk.injEq, reduceCtorEq] at h
  case add => exact ⟨_, by rw [binOp_add]; rfl, arith_ok h ho⟩
  case sub => exact ⟨_, by rw [binOp_sub]; rfl, arith_ok h ho⟩
  case mul => exact ⟨_, by rw [binOp_mul]; rfl, arith_ok h ho⟩
  case quo =>
    rw [Option.map_eq_some_iff] at h
    obtain ⟨⟨p', a', o'⟩, h1, h2⟩ := h
    simp only [Prod.mk.injEq] at h2
    obtain ⟨rfl, rfl, rfl⟩ := h2
    refine ⟨_, ?_, arith_ok h1 ho.2⟩
    rw [binOp_quo]
    simp [Op.intDiv, ho.1]
  case rem =>
    obtain ⟨rfl, _, rfl⟩ := h
    refine ⟨_, ?_, rfl⟩
    rw [binOp_rem]
    simp [Op.intDiv, ho.1]
  case eql => obtain ⟨rfl, _, rfl⟩ := h; exact ⟨_, by rw [binOp_eql]; rfl, rfl⟩
  case neq => obtain ⟨rfl, _, rfl⟩ := h; exact ⟨_, by rw [binOp_neq]; rfl, rfl⟩
  case lss => obtain ⟨rfl, _, rfl⟩ := h; exact ⟨_, by rw [binOp_lss]; rfl, rfl⟩
  case leq => obtain ⟨rfl, _, rfl⟩ := h; exact ⟨_, by rw [binOp_leq]; rfl, rfl⟩
  case gtr => obtain ⟨rfl, _, rfl⟩ := h; exact ⟨_, by rw [binOp_gtr]; rfl, rfl⟩
  case geq => obtain ⟨rfl, _, rfl⟩ := h; exact ⟨_, by rw [binOp_geq]; rfl, rfl⟩

/-- The single value behind a PV that has no memory. -/
def PV.value (p : PV) : Option Value :=
  match p with
  | .al (.one l) => l.val
  | p => p.vals.map fun xs => .agg xs.toArray

theorem PV.value_sat {w : World} {ω : Own} {τ : Nat → Nat × Value} {p : PV} {x y : Value} (h : p.value = some x) (hs : SatP (Sat w ω τ) p y) : y = x := by
  unfold PV.value at h
  split at h
  · exact Leaf.val_sat h hs
  · rw [Option.map_eq_some_iff] at h
    obtain ⟨xs, h1, rfl⟩ := h
    exact PV.vals_sat h1 hs

def isAggT (P : Program) (t : TypeId) : Option Bool :=
  match P.underlying t with
  | some (.struct _) | some (.array _ _) => some true
  | some _ => some false
  | none => none

theorem isAggT_run {P : Program} {t : TypeId} {b : Bool} (h : isAggT P t = some b) (w : World) : (isAgg t).run P w = .ok b w := by
  unfold isAggT at h
  unfold isAgg
  split at h
  · rename_i hu; simp only [Option.some.injEq] at h; subst h; simp [run_underlying hu]
  · rename_i hu; simp only [Option.some.injEq] at h; subst h; simp [run_underlying hu]
  · rename_i d h1 h2 hu
    simp only [Option.some.injEq] at h; subst h
    rw [Sem.run_bind, run_underlying hu]
    cases d <;> first | rfl | (exact absurd rfl (h1 _)) | (exact absurd rfl (h2 _ _))
  · cases h

/-- Equality of values without memory, computed. -/
def partP (P : Program) (t : TypeId) (cs : Array Value) (off : Nat) : Option Value :=
  match isAggT P t, P.info? t with
  | some true, some i => some (.agg (cs.extract off (off + i.size)))
  | some false, _ => cs[off]?
  | _, _ => none

theorem partP_run {P : Program} {t : TypeId} {cs : Array Value} {off : Nat} {v : Value} (h : partP P t cs off = some v) (w : World) : (part t cs off).run P w = .ok v w := by
  unfold partP at h
  split at h
  · rename_i i e1 e2
    simp only [Option.some.injEq] at h
    subst h
    simp [part, isAggT_run e1, sizeOf, typeInfo, e2]
  · rename_i e1
    simp [part, isAggT_run e1, h]
  · cases h

def eqFs (P : Program) (f : TypeId → Value → Value → Option Bool) (xs ys : Array Value) : List Field → Option Bool
  | [] => some true
  | fd :: r =>
    if fd.name = "_" then none else
    match partP P fd.type xs fd.offset, partP P fd.type ys fd.offset with
    | some a, some b =>
      match f fd.type a b with
      | some c =>
        match r with
        | [] => some c
        | r => (eqFs P f xs ys r).map fun c' => c && c'
      | none => none
    | _, _ => none

def eqP (P : Program) : Nat → TypeId → Value → Value → Option Bool
  | 0, _, _, _ => none
  | m + 1, t, x, y =>
    match P.underlying t, x, y with
    | some .bool, .bool a, .bool b => some (a == b)
    | some (.int _), .int k a, .int k' b => if k = k' then some (a == b) else none
    | some .string, .string a, .string b => some (a.toList == b.toList)
    | some (.struct fs), .agg xs, .agg ys => if P.stoodInHeld t then none else eqFs P (eqP P m) xs ys fs.toList
    | _, _, _ => none

theorem eqFs_run {P : Program} {d : Nat} {f : TypeId → Value → Value → Option Bool} (hf : ∀ t x y c, f t x y = some c → ∀ w, (Op.equalIn d t x y).run P w = .ok c w) {xs ys : Array Value} :
    ∀ {fs : List Field} {c : Bool}, eqFs P f xs ys fs = some c → ∀ w, (Op.eqFields d xs ys fs).run P w = .ok c w
  | [], c, h, w => by simp only [eqFs, Option.some.injEq] at h; subst h; simp [Op.eqFields]
  | fd :: r, c, h, w => by
    simp only [eqFs] at h
    split at h
    · cases h
    · rename_i hn
      split at h
      · rename_i a b e1 e2
        split at h
        · rename_i c1 e3
          simp only [Op.eqFields, if_pos (show fd.name ≠ "_" from hn), Sem.run_bind, partP_run e1, partP_run e2, Result.andThen_ok, hf _ _ _ _ e3, Sem.run_ite]
          split at h
          · simp only [Option.some.injEq] at h
            subst h
            cases c1 <;> simp [Op.eqFields]
          · rw [Option.map_eq_some_iff] at h
            obtain ⟨c2, h1, rfl⟩ := h
            have := eqFs_run hf h1 w
            cases c1 <;> simp [this]
        · cases h
      · cases h

theorem eqP_run {P : Program} : ∀ {m : Nat} {t : TypeId} {x y : Value} {c : Bool}, eqP P m t x y = some c → ∀ (d : Nat) (w : World), (Op.equalIn (d + m) t x y).run P w = .ok c w
  | 0, _, _, _, _, h, _, _ => by cases h
  | m + 1, t, x, y, c, h, d, w => by
    rw [show d + (m + 1) = (d + m) + 1 from rfl]
    simp only [eqP] at h
    split at h
    · rename_i a b e
      simp only [Option.some.injEq] at h
      subst h
      exact run_equalIn_bool w _ t a b e
    · rename_i k' k a k2 b e
      split at h
      · rename_i hk
        subst hk
        simp only [Option.some.injEq] at h
        subst h
        exact run_equalIn_int w _ t k k' a b e
      · cases h
    · rename_i a b e
      simp only [Option.some.injEq] at h
      subst h
      exact run_equalIn_string w _ t a b e
    · rename_i fs xs ys e
      split at h
      · cases h
      · rename_i hs
        have hfs : P.fieldsOf t = fs := by simp [Program.fieldsOf, e]
        rw [run_equalIn_struct w _ t xs ys (by rw [hfs]; exact e) (by simpa using hs), hfs]
        exact eqFs_run (fun t x y c h w => eqP_run h d w) h w
    · cases h

def eqBin (P : Program) (op : BinOp) (t : TypeId) (u v : Value) : Option Bool :=
  match op, u, v with
  | .eql, .agg xs, .agg ys => if P.eqGuardType P.depth t then none else eqP P 20 t (.agg xs) (.agg ys)
  | .neq, .agg xs, .agg ys => if P.eqGuardType P.depth t then none else (eqP P 20 t (.agg xs) (.agg ys)).map fun c => !c
  | .eql, .bool a, .bool b => match P.underlying t with | some .bool => some (a == b) | _ => none
  | .neq, .bool a, .bool b => match P.underlying t with | some .bool => some (!(a == b)) | _ => none
  | .eql, .string a, .string b => match P.underlying t with | some .string => some (a.toList == b.toList) | _ => none
  | .neq, .string a, .string b => match P.underlying t with | some .string => some (!(a.toList == b.toList)) | _ => none
  | _, _, _ => none

theorem eqBin_ok {P : Program} {op : BinOp} {t : TypeId} {x y : Operand} {u v : Value} {c : Bool} (h : eqBin P op t u v = some c) : BinRun P op t x y u v (.bool c) := by
  intro w
  have h20 : ∀ {x y : Value} {c : Bool}, eqP P 20 t x y = some c → (Op.equalIn 10000 t x y).run P w = .ok c w := fun h => eqP_run h 9980 w
  unfold eqBin at h
  split at h
  · rename_i xs ys
    split at h
    · cases h
    · rename_i hg
      simp [run_eqGuard_agg w .eql t x y xs ys (by simpa using hg), run_eql_struct, h20 h]
  · rename_i xs ys
    split at h
    · cases h
    · rename_i hg
      rw [Option.map_eq_some_iff] at h
      obtain ⟨c', h1, rfl⟩ := h
      simp [run_eqGuard_agg w .neq t x y xs ys (by simpa using hg), run_neq_struct, h20 h1]
  · rename_i a b
    split at h
    · rename_i e
      simp only [Option.some.injEq] at h
      subst h
      simp [eqGuard, binOp, run_equal_bool w t a b e]
    · cases h
  · rename_i a b
    split at h
    · rename_i e
      simp only [Option.some.injEq] at h
      subst h
      simp [eqGuard, binOp, run_equal_bool w t a b e]
    · cases h
  · rename_i a b
    split at h
    · simp only [Option.some.injEq] at h
      subst h
      simp [eqGuard, binOp, Op.stringOp, beq_toListBytes]
    · cases h
  · rename_i a b
    split at h
    · simp only [Option.some.injEq] at h
      subst h
      simp [eqGuard, binOp, Op.stringOp, beq_toListBytes]
    · cases h
  · cases h

def stepBin (P : Program) (op : BinOp) (t : TypeId) (x y : Operand) (p q : PV) (ans : List Ans) : Got :=
  match p.int, q.int with
  | some (k, a), some (k', b) =>
    match (if k = k' then binInt op k a b ans else none) with
    | some r => some r
    | none =>
      match ans with
      | .pv (.al (.one (.v c))) :: r => some (.one (.v c), r, [BinRun P op t x y (.int k a) (.int k' b) c])
      | _ => none
  | _, _ =>
    match (match p.value, q.value with | some u, some v => eqBin P op t u v | _, _ => none) with
    | some c => some (.one (.sb c), ans, [])
    | none =>
    match p.value, q.value, ans with
    | some u, some v, .eq c :: r => some (.one (.sb c), r, [BinRun P op t x y u v (.bool c)])
    | some u, some v, .pv (.al (.one (.v c))) :: r => some (.one (.v c), r, [BinRun P op t x y u v c])
    | _, _, _ => none

theorem stepBin_ok {P : Program} {w : World} {ω : Own} {τ : Nat → Nat × Value} {op : BinOp} {t : TypeId} {x y : Operand} {p q r : PV} {u v : Value} {ans ans' : List Ans} {obs : List Prop}
    (hp : SatP (Sat w ω τ) p u) (hq : SatP (Sat w ω τ) q v) (h : stepBin P op t x y p q ans = some (r, ans', obs)) (ho : Obs obs) :
    ∃ z, ((do eqGuard op t x y u v; binOp op t u v : Sem Value)).run P w = .ok z w ∧ SatP (Sat w ω τ) r z := by
  unfold stepBin at h
  split at h
  · rename_i k a k' b e1 e2
    rw [PV.int_sat e1 hp, PV.int_sat e2 hq]
    split at h
    · rename_i r' e3
      simp only [Option.some.injEq] at h
      subst h
      split at e3
      · rename_i hk
        subst hk
        exact binInt_ok t x y e3 ho
      · cases e3
    · split at h
      · rename_i c r' _
        simp only [Option.some.injEq, Prod.mk.injEq] at h
        obtain ⟨rfl, _, rfl⟩ := h
        exact ⟨_, ho.1 w, rfl⟩
      · cases h
  · split at h
    · rename_i c e0
      simp only [Option.some.injEq, Prod.mk.injEq] at h
      obtain ⟨rfl, _, _⟩ := h
      split at e0
      · rename_i u' v' e1 e2
        rw [PV.value_sat e1 hp, PV.value_sat e2 hq]
        exact ⟨_, eqBin_ok e0 w, rfl⟩
      · cases e0
    · split at h
      · rename_i u' v' c r' e1 e2
        simp only [Option.some.injEq, Prod.mk.injEq] at h
        obtain ⟨rfl, _, rfl⟩ := h
        rw [PV.value_sat e1 hp, PV.value_sat e2 hq]
        exact ⟨_, ho.1 w, rfl⟩
      · rename_i u' v' c r' e1 e2
        simp only [Option.some.injEq, Prod.mk.injEq] at h
        obtain ⟨rfl, _, rfl⟩ := h
        rw [PV.value_sat e1 hp, PV.value_sat e2 hq]
        exact ⟨_, ho.1 w, rfl⟩
      · cases h
end Go.Sx

namespace Go.Sx
open Go.RowKit

def Tag.ro' : Tag → Tag
  | .free => .free
  | .own t => .ro t
  | .ro t => .ro t

theorem Tag.ro'_R {t : Tag} {q q' : List (Nat × Nat)} {o : Owner} (h : t.R q o) : t.ro'.R q' o := by
  cases t with
  | free => exact h
  | own s => exact .inr ⟨q, h⟩
  | ro s => exact h

theorem Tag.ro'_hdr {t : Tag} {τ : Nat → Nat × Value} {y : Nat × Value} : t.ro'.hdr τ y := by cases t <;> exact trivial

def D.leaf (t : Tag) : D → Leaf
  | .v (.bool c) => .sb c
  | .v x => .v x
  | .sl k es => .sl t.ro' k es
  | .ptr ds => match t with | .free => .rp ds 0 | _ => .und
  | .cl g caps => match t with | .free => .fd (.cl g caps) | _ => .und

theorem D.leaf_sat {w : World} {ω : Own} {τ : Nat → Nat × Value} {t : Tag} {p : Nat × Nat} {d : D} {u : Value} (h : Rep w ω (fun q => t.R (p :: q)) d u) : Sat w ω τ (d.leaf t) u := by
  cases d with
  | v x =>
    have e : u = x := by cases h; rfl
    subst e
    unfold D.leaf
    split
    · rename_i h; cases h; exact rfl
    · rename_i h; cases h; exact rfl
    · rename_i h; cases h
    · rename_i h; cases h
    · rename_i h; cases h
  | sl k es => exact ⟨h.frame fun b q hb hq => ⟨Tag.ro'_R hq, rfl⟩, Tag.ro'_hdr⟩
  | ptr ds =>
    cases t with
    | free =>
      have h2 : Rep w ω Tag.free.R (.ptr ds) u := h
      have h3 := h2
      cases h3 with
      | ptr R ds b arr ty fr us hb hR hs hu hd => exact ⟨b, rfl, h2⟩
    | own s => exact trivial
    | ro s => exact trivial
  | cl g caps =>
    cases t with
    | free => exact h
    | own s => exact trivial
    | ro s => exact trivial

/-- A cell of an element of a tree, where that is told. -/
def D.leafSub (t i j : Nat) : D → Leaf
  | .sl k es => .sn t i j k es .here
  | d => d.leaf (.own t)

def subLeaves (t i : Nat) : Nat → List D → List Leaf
  | _, [] => []
  | j, d :: ds => d.leafSub t i j :: subLeaves t i (j + 1) ds

theorem subLeaves_get (t i : Nat) : ∀ (ds : List D) (j x : Nat), (subLeaves t i j ds)[x]? = (ds[x]?).map (D.leafSub t i (j + x))
  | [], _, _ => by simp [subLeaves]
  | d :: ds, j, 0 => by simp [subLeaves]
  | d :: ds, j, x + 1 => by
    simp only [subLeaves, List.getElem?_cons_succ, subLeaves_get t i ds (j + 1) x]
    rw [show j + 1 + x = j + (x + 1) by omega]

theorem subLeaves_length (t i : Nat) : ∀ (ds : List D) (j : Nat), (subLeaves t i j ds).length = ds.length
  | [], _ => rfl
  | d :: ds, j => by simp [subLeaves, subLeaves_length t i ds (j + 1)]

def fieldOf (P : Program) (s : TypeId) (f : Nat) : Option Nat :=
  match P.underlying s with
  | some (.struct fs) =>
    match fs[f]? with
    | some fd =>
      match P.info? fd.type with
      | some i => if i.size = 0 then none else some fd.offset
      | none => none
    | none => none
  | _ => none

theorem add_off (b off n : Nat) : (⟨b, off, none⟩ : Addr).add n = ⟨b, off + n, none⟩ := by
  unfold Addr.add
  split
  · rename_i h; simp [h]
  · rfl

theorem run_fieldAt {P : Program} {s : TypeId} {f off : Nat} (h : fieldOf P s f = some off) (w : World) (b o : Nat) :
    (Instr.fieldAt s (.pointer (some ⟨b, o, none⟩)) f).run P w = .ok (.pointer (some ⟨b, o + off, none⟩)) w := by
  unfold fieldOf at h
  split at h
  · rename_i fs hu
    split at h
    · rename_i fd hf
      split at h
      · rename_i i hi
        split at h
        · cases h
        · rename_i hz
          simp only [Option.some.injEq] at h
          subst h
          simp [Instr.fieldAt, run_underlying hu, hf, Instr.sureAddr, fieldPlace, sizeOf, typeInfo, hi, hz, add_off]
      · cases h
    · cases h
  · cases h

def stepField (P : Program) (s : TypeId) (p : PV) (f : Nat) (ans : List Ans) : Got :=
  match fieldOf P s f, p.leaf with
  | some off, some (.ptr id o) => some (.one (.ptr id (o + off)), ans, [])
  | some off, some (.ep t k es i j) => some (.one (.ep t k es i (j + off)), ans, [])
  | some off, some (.rp ds o) => some (.one (.rp ds (o + off)), ans, [])
  | some off, some (.sn t i j k es (.at_ x y)) => some (.one (.sn t i j k es (.at_ x (y + off))), ans, [])
  | _, _ => none

theorem stepField_ok {P : Program} {w : World} {ω : Own} {τ : Nat → Nat × Value} {s : TypeId} {p r : PV} {f : Nat} {v : Value} {ans ans' : List Ans} {obs : List Prop}
    (hp : SatP (Sat w ω τ) p v) (h : stepField P s p f ans = some (r, ans', obs)) :
    ∃ z, (Instr.fieldAt s v f).run P w = .ok z w ∧ SatP (Sat w ω τ) r z := by
  unfold stepField at h
  split at h
  · rename_i off id o e1 e2
    simp only [Option.some.injEq, Prod.mk.injEq] at h
    obtain ⟨rfl, _, rfl⟩ := h
    obtain ⟨b, hb, rfl⟩ := PV.leaf_sat e2 hp
    exact ⟨_, run_fieldAt e1 w b o, b, hb, rfl⟩
  · rename_i off t k es i j e1 e2
    simp only [Option.some.injEq, Prod.mk.injEq] at h
    obtain ⟨rfl, _, rfl⟩ := h
    obtain ⟨b, o, cap, rfl, hi, hr, hh⟩ := PV.leaf_sat e2 hp
    exact ⟨_, run_fieldAt e1 w b _, b, o, cap, by rw [Nat.add_assoc], hi, hr, hh⟩
  · rename_i off ds o e1 e2
    simp only [Option.some.injEq, Prod.mk.injEq] at h
    obtain ⟨rfl, _, rfl⟩ := h
    obtain ⟨b, rfl, hr⟩ := PV.leaf_sat e2 hp
    exact ⟨_, run_fieldAt e1 w b o, b, rfl, hr⟩
  · rename_i off t i j k es x y e1 e2
    simp only [Option.some.injEq, Prod.mk.injEq] at h
    obtain ⟨rfl, _, rfl⟩ := h
    obtain ⟨u, ⟨b, o, cap, rfl, rfl, hx⟩, hr, hm⟩ := PV.leaf_sat e2 hp
    exact ⟨_, run_fieldAt e1 w b _, _, ⟨b, o, cap, rfl, by rw [Nat.add_assoc], hx⟩, hr, fun _ => hm rfl⟩
  · cases h

/-- The elements' type of a slice type, and how many cells an element has. -/
def elemOf (P : Program) (t : TypeId) : Option (TypeId × Nat) :=
  match P.underlying t with
  | some (.slice e) => (P.info? e).map fun i => (e, i.size)
  | _ => none

theorem elemOf_spec {P : Program} {t e : TypeId} {k : Nat} (h : elemOf P t = some (e, k)) : P.underlying t = some (.slice e) ∧ ∃ i, P.info? e = some i ∧ i.size = k := by
  unfold elemOf at h
  split at h
  · rename_i e' hu
    rw [Option.map_eq_some_iff] at h
    obtain ⟨i, hi, h⟩ := h
    simp only [Prod.mk.injEq] at h
    obtain ⟨rfl, rfl⟩ := h
    exact ⟨hu, i, hi, rfl⟩
  · cases h

/-- A slice that stays, as one that is looked at. -/
def Leaf.flat : Leaf → Leaf
  | .sv _ k es => .sl .free k es
  | l => l

def PV.lf (p : PV) : Option Leaf := p.leaf.map Leaf.flat

theorem PV.lf_sat {w : World} {ω : Own} {τ : Nat → Nat × Value} {p : PV} {l : Leaf} {y : Value} (h : p.lf = some l) (hs : SatP (Sat w ω τ) p y) : Sat w ω τ l y := by
  unfold PV.lf at h
  rw [Option.map_eq_some_iff] at h
  obtain ⟨l0, h0, rfl⟩ := h
  have := PV.leaf_sat h0 hs
  unfold Leaf.flat
  split
  · exact ⟨this.1, trivial⟩
  · exact this

def stepIndexAddr (P : Program) (t : TypeId) (p q : PV) (ans : List Ans) : Got :=
  match elemOf P t, p.lf, q.int with
  | some (_, k), some (.sl tag k' es), some (_, n) => if k = k' then some (.one (.ep tag k' es n.toNat 0), ans, [0 ≤ n, n < (es.length : Int)]) else none
  | some (_, k), some (.sn s i j k' es .here), some (_, n) => if k = k' then some (.one (.sn s i j k' es (.at_ n.toNat 0)), ans, [0 ≤ n, n < (es.length : Int)]) else none
  | _, _, _ => none

theorem stepIndexAddr_ok {P : Program} {w : World} {ω : Own} {τ : Nat → Nat × Value} {t : TypeId} {p q r : PV} {u v : Value} {ans ans' : List Ans} {obs : List Prop}
    (hp : SatP (Sat w ω τ) p u) (hq : SatP (Sat w ω τ) q v) (h : stepIndexAddr P t p q ans = some (r, ans', obs)) (ho : Obs obs) :
    ∃ z, (Instr.indexAt t u v).run P w = .ok z w ∧ SatP (Sat w ω τ) r z := by
  unfold stepIndexAddr at h
  split at h
  · rename_i e k tag k' es kk n e1 e2 e3
    split at h
    · rename_i hk
      subst hk
      simp only [Option.some.injEq, Prod.mk.injEq] at h
      obtain ⟨rfl, _, rfl⟩ := h
      obtain ⟨hu, i, hi, hz⟩ := elemOf_spec e1
      obtain ⟨hr, hh⟩ := PV.lf_sat e2 hp
      rw [PV.int_sat e3 hq]
      have h0 : 0 ≤ n := ho.1
      have h1 : n < (es.length : Int) := ho.2.1
      cases hr with
      | nil => simp at h1; omega
      | row R k es b off cap arr ty fr us hb hR hc hs hk hu' hd =>
        refine ⟨.pointer (some ⟨b, off + n.toNat * k + 0, none⟩), ?_, b, off, cap, rfl, by omega, .row _ k es b off cap arr ty fr us hb hR hc hs hk hu' hd, hh⟩
        simp [Instr.indexAt, run_underlying hu, asIntOf, h0, h1, sizeOf, typeInfo, hi, hz, add_off]
    · cases h
  · rename_i e k s si sj k' es kk n e1 e2 e3
    split at h
    · rename_i hk
      subst hk
      simp only [Option.some.injEq, Prod.mk.injEq] at h
      obtain ⟨rfl, _, rfl⟩ := h
      obtain ⟨hu, i, hi, hz⟩ := elemOf_spec e1
      obtain ⟨u0, rfl, hr, hm⟩ := PV.lf_sat e2 hp
      rw [PV.int_sat e3 hq]
      have h0 : 0 ≤ n := ho.1
      have h1 : n < (es.length : Int) := ho.2.1
      cases hr with
      | nil => simp at h1; omega
      | row R k es b off cap arr ty fr us hb hR hc hs hk hu' hd =>
        refine ⟨.pointer (some ⟨b, off + n.toNat * k + 0, none⟩), ?_, _, ⟨b, off, cap, rfl, rfl, by omega⟩, .row _ k es b off cap arr ty fr us hb hR hc hs hk hu' hd, hm⟩
        simp [Instr.indexAt, run_underlying hu, asIntOf, h0, h1, sizeOf, typeInfo, hi, hz, add_off]
    · cases h
  · cases h

theorem run_loadCells_block {P : Program} {w : World} {b off n : Nat} {arr : Array Value} {ty : TypeId} {fr : Nat × Nat} (hb : w.heap[b]? = some (.cells arr ty fr)) (hn : off + n ≤ arr.size) :
    (loadCells ⟨b, off, none⟩ n).run P w = .ok (arr.extract off (off + n)) w := by
  have hl : ((arr.extract off (off + n)).toList).length = n := by simp; omega
  have := run_loadCells_list (P := P) w ⟨b, off, none⟩ (arr.extract off (off + n)).toList (fun j v hv => by
    rw [add_off, cell_of_row w b (off + j) arr ty fr hb]
    rw [Array.getElem?_toList, Array.getElem?_extract] at hv
    split at hv
    · exact hv
    · cases hv)
  rw [hl, Array.toArray_toList] at this
  exact this

/-- What a load of n cells gives, given the leaves. -/
def loaded (agg : Bool) (n : Nat) (ls : List Leaf) (off : Nat) : Option PV :=
  if agg then (if off + n ≤ ls.length then some (.agg ((ls.drop off).take n)) else none)
  else (ls[off]?).map fun l => .one l

theorem loaded_ok {P : Program} {w : World} {ω : Own} {τ : Nat → Nat × Value} {t : TypeId} {agg : Bool} {i : TypeInfo} {ls : List Leaf} {off : Nat} {p : PV} (ha : isAggT P t = some agg) (hi : P.info? t = some i)
    (h : loaded agg i.size ls off = some p) {b base : Nat} {arr : Array Value} {ty : TypeId} {fr : Nat × Nat} (hb : w.heap[b]? = some (.cells arr ty fr)) (hsz : base + ls.length ≤ arr.size)
    (hs : ∀ (j : Nat) (l : Leaf), ls[j]? = some l → ∃ u, arr[base + j]? = some u ∧ Sat w ω τ l u) :
    ∃ z, (loadVar t ⟨b, base + off, none⟩).run P w = .ok z w ∧ SatP (Sat w ω τ) p z := by
  unfold loaded at h
  cases agg with
  | true =>
    simp only [if_true] at h
    split at h
    · rename_i hle
      simp only [Option.some.injEq] at h
      subst h
      refine ⟨.agg (arr.extract (base + off) (base + off + i.size)), ?_, ?_⟩
      · simp [loadVar, isAggT_run ha, sizeOf, typeInfo, hi, run_loadCells_block (P := P) hb (show base + off + i.size ≤ arr.size by omega)]
      · refine ⟨_, rfl, by simp; omega, fun j l hl => ?_⟩
        rw [List.getElem?_take] at hl
        split at hl
        · rw [List.getElem?_drop] at hl
          obtain ⟨u, h1, h2⟩ := hs _ l hl
          refine ⟨u, ?_, h2⟩
          rw [Array.getElem?_extract, if_pos (by omega), ← h1]
          congr 1
          omega
        · cases hl
    · cases h
  | false =>
    simp only [Bool.false_eq_true, if_false, Option.map_eq_some_iff] at h
    obtain ⟨l, hl, rfl⟩ := h
    obtain ⟨u, h1, h2⟩ := hs _ l hl
    refine ⟨u, ?_, h2⟩
    simp [loadVar, isAggT_run ha, cell_of_row w b (base + off) arr ty fr hb, h1]

def stepLoad (P : Program) (st : St) (t : TypeId) (p : PV) (ans : List Ans) : Got :=
  match isAggT P t, P.info? t, p.leaf with
  | some agg, some i, some (.ptr id off) =>
    match getBox id st.boxes with
    | some ls => (loaded agg i.size ls off).map fun r => (r, ans, [])
    | none => none
  | some agg, some i, some (.ep tag k es x j) =>
    match ans with
    | .el ds :: r => if ds.length = k then (loaded agg i.size (ds.map (D.leaf tag)) j).map fun v => (v, r, [es[x]? = some ds]) else none
    | .sub :: .el ds :: r =>
      match tag with
      | .own t => if ds.length = k then (loaded agg i.size (subLeaves t x 0 ds) j).map fun v => (v, r, [es[x]? = some ds]) else none
      | _ => none
    | _ => none
  | some agg, some i, some (.rp ds off) => (loaded agg i.size (ds.map (D.leaf .free)) off).map fun r => (r, ans, [])
  | some agg, some i, some (.sn s _ _ k es (.at_ x y)) =>
    match ans with
    | .el ds :: r => if ds.length = k then (loaded agg i.size (ds.map (D.leaf (.ro s))) y).map fun v => (v, r, [es[x]? = some ds]) else none
    | _ => none
  | _, _, _ => none

theorem stepLoad_ok {P : Program} {w0 : Base} {w : World} {a : Act} {st : St} {ω : Own} {τ : Nat → Nat × Value} {t : TypeId} {p r : PV} {v : Value} {ans ans' : List Ans} {obs : List Prop}
    (hrel : RelAt w0 st a w ω τ) (hp : SatP (Sat w ω τ) p v) (h : stepLoad P st t p ans = some (r, ans', obs)) (ho : Obs obs) :
    ∃ z, (Instr.loadAt t v).run P w = .ok z w ∧ SatP (Sat w ω τ) r z := by
  unfold stepLoad at h
  split at h
  · rename_i agg i id off e1 e2 e3
    split at h
    · rename_i ls hbx
      rw [Option.map_eq_some_iff] at h
      obtain ⟨r', h1, h⟩ := h
      simp only [Prod.mk.injEq] at h
      obtain ⟨rfl, rfl, rfl⟩ := h
      obtain ⟨b, hb, rfl⟩ := PV.leaf_sat e3 hp
      obtain ⟨b', arr, ty, hb', huniq, hheap, hsz, hsat⟩ := hrel.boxes id ls hbx
      have := huniq b hb
      subst this
      have := loaded_ok (P := P) e1 e2 h1 hheap (base := 0) (by omega) (fun j l hl => by simpa using hsat j l hl)
      simpa [Instr.loadAt, Instr.sureAddr] using this
    · cases h
  · rename_i agg i tag k es x j e1 e2 e3
    split at h
    · rename_i ds rr
      split at h
      · rename_i hlen
        rw [Option.map_eq_some_iff] at h
        obtain ⟨r', h1, h⟩ := h
        simp only [Prod.mk.injEq] at h
        obtain ⟨rfl, rfl, rfl⟩ := h
        have hds : es[x]? = some ds := ho.1
        obtain ⟨b, off, cap, rfl, hi, hr, hh⟩ := PV.leaf_sat e3 hp
        cases hr with
        | nil => simp at hi
        | row R k es b off cap arr ty fr us hb hR hc hs hk hu hd =>
          have hkx : x * k + k ≤ cap * k := by
            have : (x + 1) * k ≤ cap * k := Nat.mul_le_mul_right k (by omega)
            rw [Nat.add_mul] at this; omega
          have := loaded_ok (P := P) (τ := τ) (ω := ω) e1 e2 h1 hb (base := off + x * k) (by simp [hlen]; omega) (fun jj l hl => by
            rw [List.getElem?_map, Option.map_eq_some_iff] at hl
            obtain ⟨d, h2, rfl⟩ := hl
            have hc : cellAt es x jj = some d := by simp [cellAt, hds, h2]
            exact ⟨us x jj, hu x jj d hc, D.leaf_sat (hd x jj d hc)⟩)
          simpa [Instr.loadAt, Instr.sureAddr] using this
      · cases h
    · rename_i ds rr
      split at h
      · rename_i t
        split at h
        · rename_i hlen
          rw [Option.map_eq_some_iff] at h
          obtain ⟨r', h1, h⟩ := h
          simp only [Prod.mk.injEq] at h
          obtain ⟨rfl, rfl, rfl⟩ := h
          have hds : es[x]? = some ds := ho.1
          obtain ⟨b, off, cap, rfl, hi, hr, hh⟩ := PV.leaf_sat e3 hp
          cases hr with
          | nil => simp at hi
          | row R k es b off cap arr ty fr us hb hR hc hs hk hu hd =>
            have hkx : x * k + k ≤ cap * k := by
              have : (x + 1) * k ≤ cap * k := Nat.mul_le_mul_right k (by omega)
              rw [Nat.add_mul] at this; omega
            have := loaded_ok (P := P) (τ := τ) (ω := ω) e1 e2 h1 hb (base := off + x * k) (by simp [subLeaves_length, hlen]; omega) (fun jj l hl => by
              rw [subLeaves_get, Option.map_eq_some_iff] at hl
              obtain ⟨d, h2, rfl⟩ := hl
              rw [Nat.zero_add]
              have hc : cellAt es x jj = some d := by simp [cellAt, hds, h2]
              have hdd := hd x jj d hc
              refine ⟨us x jj, hu x jj d hc, ?_⟩
              cases d with
              | sl k2 es2 => exact ⟨_, rfl, hdd, fun _ => ⟨k, b, off, es.length, cap, arr, ty, fr, hh, hR, hb, hu x jj _ hc⟩⟩
              | v z => exact D.leaf_sat (t := .own t) (p := (x, jj)) hdd
              | ptr ds => exact D.leaf_sat (t := .own t) (p := (x, jj)) hdd
              | cl g cs => exact D.leaf_sat (t := .own t) (p := (x, jj)) hdd)
            simpa [Instr.loadAt, Instr.sureAddr] using this
        · cases h
      · cases h
    · cases h
  · rename_i agg i ds off e1 e2 e3
    rw [Option.map_eq_some_iff] at h
    obtain ⟨r', h1, h⟩ := h
    simp only [Prod.mk.injEq] at h
    obtain ⟨rfl, rfl, rfl⟩ := h
    obtain ⟨b, rfl, hr⟩ := PV.leaf_sat e3 hp
    have hr' : Rep w ω Tag.free.R (.ptr ds) (.pointer (some ⟨b, 0, none⟩)) := hr
    cases hr' with
    | ptr R ds b arr ty fr us hb hR hs hu hd =>
      have := loaded_ok (P := P) (τ := τ) (ω := ω) e1 e2 h1 hb (base := 0) (by simp; omega) (fun jj l hl => by
        rw [List.getElem?_map, Option.map_eq_some_iff] at hl
        obtain ⟨d, h2, rfl⟩ := hl
        exact ⟨us jj, by simpa using hu jj d h2, D.leaf_sat (p := (0, jj)) (hd jj d h2)⟩)
      simpa [Instr.loadAt, Instr.sureAddr] using this
  · rename_i agg i s si sj k es x y e1 e2 e3
    split at h
    · rename_i ds rr
      split at h
      · rename_i hlen
        rw [Option.map_eq_some_iff] at h
        obtain ⟨r', h1, h⟩ := h
        simp only [Prod.mk.injEq] at h
        obtain ⟨rfl, rfl, rfl⟩ := h
        have hds : es[x]? = some ds := ho.1
        obtain ⟨u0, ⟨b, off, cap, rfl, rfl, hi⟩, hr, hm⟩ := PV.leaf_sat e3 hp
        cases hr with
        | nil => simp at hi
        | row R k es b off cap arr ty fr us hb hR hc hs hk hu hd =>
          have hkx : x * k + k ≤ cap * k := by
            have : (x + 1) * k ≤ cap * k := Nat.mul_le_mul_right k (by omega)
            rw [Nat.add_mul] at this; omega
          have := loaded_ok (P := P) (τ := τ) (ω := ω) e1 e2 h1 hb (base := off + x * k) (by simp [hlen]; omega) (fun jj l hl => by
            rw [List.getElem?_map, Option.map_eq_some_iff] at hl
            obtain ⟨d, h2, rfl⟩ := hl
            have hc : cellAt es x jj = some d := by simp [cellAt, hds, h2]
            refine ⟨us x jj, hu x jj d hc, D.leaf_sat (t := .ro s) (p := (x, jj)) ((hd x jj d hc).frame fun b q _ hq => ⟨.inr ⟨_, hq⟩, rfl⟩)⟩)
          simpa [Instr.loadAt, Instr.sureAddr] using this
      · cases h
    · cases h
  · cases h

def stepLen (P : Program) (t : TypeId) (p : PV) (ans : List Ans) : Got :=
  match P.underlying t, p.lf with
  | some (.slice _), some (.sl _ _ es) => some (.one (.v (.int .i64 es.length)), ans, [])
  | some (.slice _), some (.v (.slice _ n _)) => some (.one (.v (.int .i64 n)), ans, [])
  | some (.slice _), some (.sn _ _ _ _ es .here) => some (.one (.v (.int .i64 es.length)), ans, [])
  | some (.slice _), some (.sn _ _ _ _ es .away) => some (.one (.v (.int .i64 es.length)), ans, [])
  | some .string, some (.v (.string s)) => some (.one (.v (.int .i64 s.size)), ans, [])
  | _, _ => none

theorem Rep.len {w : World} {ω : Own} {R : List (Nat × Nat) → Owner → Prop} {k : Nat} {es : List (List D)} {y : Value} (h : Rep w ω R (.sl k es) y) : ∃ b c, y = .slice b es.length c := by
  cases h with
  | nil => exact ⟨_, _, rfl⟩
  | row R k es b off cap arr ty fr us hb hR hc hs hk hu hd => exact ⟨_, _, rfl⟩

theorem stepLen_ok {P : Program} {w : World} {ω : Own} {τ : Nat → Nat × Value} {t ty : TypeId} {p r : PV} {v : Value} {ans ans' : List Ans} {obs : List Prop}
    (hp : SatP (Sat w ω τ) p v) (h : stepLen P t p ans = some (r, ans', obs)) :
    ∃ z, (Builtin.len_ #[t] ty #[v]).run P w = .ok z w ∧ SatP (Sat w ω τ) r z := by
  unfold stepLen at h
  split at h
  · rename_i e tg k es e1 e2
    simp only [Option.some.injEq, Prod.mk.injEq] at h
    obtain ⟨rfl, _, rfl⟩ := h
    obtain ⟨hr, _⟩ := PV.lf_sat e2 hp
    obtain ⟨b, c, rfl⟩ := hr.len
    exact ⟨_, by simp [Builtin.len_, run_underlying e1]; rfl, rfl⟩
  · rename_i e b n c e1 e2
    simp only [Option.some.injEq, Prod.mk.injEq] at h
    obtain ⟨rfl, _, rfl⟩ := h
    have : v = .slice b n c := PV.lf_sat e2 hp
    subst this
    exact ⟨_, by simp [Builtin.len_, run_underlying e1]; rfl, rfl⟩
  · rename_i e s si sj k es e1 e2
    simp only [Option.some.injEq, Prod.mk.injEq] at h
    obtain ⟨rfl, _, rfl⟩ := h
    obtain ⟨u0, rfl, hr, _⟩ := PV.lf_sat e2 hp
    obtain ⟨b, c, rfl⟩ := hr.len
    exact ⟨_, by simp [Builtin.len_, run_underlying e1]; rfl, rfl⟩
  · rename_i e s si sj k es e1 e2
    simp only [Option.some.injEq, Prod.mk.injEq] at h
    obtain ⟨rfl, _, rfl⟩ := h
    obtain ⟨u0, rfl, hr, _⟩ := PV.lf_sat e2 hp
    obtain ⟨b, c, rfl⟩ := hr.len
    exact ⟨_, by simp [Builtin.len_, run_underlying e1]; rfl, rfl⟩
  · rename_i s e1 e2
    simp only [Option.some.injEq, Prod.mk.injEq] at h
    obtain ⟨rfl, _, rfl⟩ := h
    have : v = .string s := PV.lf_sat e2 hp
    subst this
    exact ⟨_, by simp [Builtin.len_, run_underlying e1]; rfl, rfl⟩
  · cases h

theorem cellAt_sub {es : List (List D)} {l n i j : Nat} {d : D} (h : cellAt ((es.drop l).take n) i j = some d) : i < n ∧ cellAt es (l + i) j = some d := by
  unfold cellAt at h ⊢
  rw [List.getElem?_take] at h
  split at h
  · rw [List.getElem?_drop] at h
    exact ⟨by omega, h⟩
  · simp at h

/-- A cut of a slice reads as the cut of its elements. -/
theorem Rep.sub {w : World} {ω : Own} {R R' : List (Nat × Nat) → Owner → Prop} {k : Nat} {es : List (List D)} {b off cap : Nat} (h : Rep w ω R (.sl k es) (.slice (some ⟨b, off, none⟩) es.length cap))
    {l m : Nat} (hl : l ≤ m) (hm : m ≤ es.length) (hR0 : ∀ o, R [] o → R' [] o) (hR1 : ∀ i j q o, l ≤ i → R ((i, j) :: q) o → R' ((i - l, j) :: q) o) :
    Rep w ω R' (.sl k ((es.drop l).take (m - l))) (sliced (some ⟨b, off, none⟩) l m cap k) := by
  cases h with
  | nil =>
    have e1 : l = 0 := by simp at hm; omega
    have e2 : m = 0 := by simp at hm; omega
    subst e1 e2
    simpa [sliced] using Rep.nil R' k _
  | row R k es b off cap arr ty fr us hb hR hc hs hk hu hd =>
    have hlen : ((es.drop l).take (m - l)).length = m - l := by simp; omega
    have hmul : l * k + (cap - l) * k = cap * k := by rw [← Nat.add_mul]; congr 1; omega
    have key : ∀ o' : Nat, (cap = l ∨ o' = off + l * k) → o' + (cap - l) * k ≤ arr.size →
        Rep w ω R' (.sl k ((es.drop l).take (m - l))) (.slice (some ⟨b, o', none⟩) (m - l) (cap - l)) := by
      intro o' ho hsz
      have hz : cap = l → m - l = 0 := fun e => by omega
      have hr := Rep.row (w := w) (ω := ω) R' k ((es.drop l).take (m - l)) b o' (cap - l) arr ty fr (fun i j => us (l + i) j) hb (hR0 _ hR) (by omega) hsz
        (fun e he => hk e (List.mem_of_mem_drop (List.mem_of_mem_take he)))
        (fun i j d hc' => by
          obtain ⟨hi, hc''⟩ := cellAt_sub hc'
          rcases ho with ho | rfl
          · have := hz ho; omega
          · rw [← hu (l + i) j d hc'']
            congr 1
            rw [Nat.add_mul]; omega)
        (fun i j d hc' => by
          obtain ⟨hi, hc''⟩ := cellAt_sub hc'
          refine (hd (l + i) j d hc'').frame fun b q _ hq => ⟨?_, rfl⟩
          have := hR1 _ _ _ _ (Nat.le_add_right l i) hq
          rwa [show l + i - l = i by omega] at this)
      rw [hlen] at hr
      exact hr
    unfold sliced
    split
    · rename_i hcl
      exact key off (.inl hcl) (by have : cap - l = 0 := (by omega); rw [this]; simp; omega)
    · simp only [Option.map_some, add_off]
      exact key _ (.inr rfl) (by omega)

/-- A slice in a tree, as one that is looked at. -/
def Leaf.view : Leaf → Leaf
  | .sn t _ _ k es .here => .sl (.ro t) k es
  | .sn t _ _ k es .away => .sl (.ro t) k es
  | .sv _ k es => .sl .free k es
  | l => l

theorem Leaf.view_sat {w : World} {ω : Own} {τ : Nat → Nat × Value} {l : Leaf} {y : Value} (hs : Sat w ω τ l y) : Sat w ω τ l.view y := by
  unfold Leaf.view
  split
  · obtain ⟨u0, rfl, hr, _⟩ := hs
    exact ⟨hr.frame fun b q _ hq => ⟨.inr ⟨_, hq⟩, rfl⟩, trivial⟩
  · obtain ⟨u0, rfl, hr, _⟩ := hs
    exact ⟨hr.frame fun b q _ hq => ⟨.inr ⟨_, hq⟩, rfl⟩, trivial⟩
  · exact ⟨hs.1, trivial⟩
  · exact hs

theorem PV.view_sat {w : World} {ω : Own} {τ : Nat → Nat × Value} {p : PV} {l : Leaf} {y : Value} (h : p.leaf.map Leaf.view = some l) (hs : SatP (Sat w ω τ) p y) : Sat w ω τ l y := by
  rw [Option.map_eq_some_iff] at h
  obtain ⟨l0, h0, rfl⟩ := h
  exact Leaf.view_sat (PV.leaf_sat h0 hs)

def optInt (st : St) : Option Operand → Option (Option Int)
  | none => some none
  | some x => ((st.ev x).int).map fun p => some p.2

def stepSlice (P : Program) (st : St) (t : TypeId) (p : PV) (lo hi mx : Option Operand) (ans : List Ans) : Got :=
  match elemOf P t, p.leaf.map Leaf.view, mx with
  | some (_, k), some (.sl tag k' es), none =>
    if k = k' then
      match optInt st lo, optInt st hi with
      | some l, some h => some (.one (.sl tag.ro' k ((es.drop (l.getD 0).toNat).take ((h.getD es.length).toNat - (l.getD 0).toNat))), ans, [0 ≤ l.getD 0, l.getD 0 ≤ h.getD es.length, h.getD es.length ≤ es.length])
      | _, _ => none
    else none
  | _, _, _ => none

theorem run_sliceBounds {P : Program} {w : World} {len cap : Nat} {lo hi : Option Value} {l h : Int} (hl : lo = none ∧ l = 0 ∨ ∃ k, lo = some (.int k l)) (hh : hi = none ∧ h = len ∨ ∃ k, hi = some (.int k h))
    (h0 : 0 ≤ l) (h1 : l ≤ h) (h2 : h ≤ cap) : (Instr.sliceBounds true len cap lo hi none).run P w = .ok (l.toNat, h.toNat, cap) w := by
  have eh : (h.toNat : Int) = h := Int.toNat_of_nonneg (by omega)
  have h3 : 0 ≤ h := by omega
  rcases hl with ⟨rfl, rfl⟩ | ⟨k, rfl⟩ <;> rcases hh with ⟨rfl, rfl⟩ | ⟨k', rfl⟩ <;>
    simp_all [Instr.sliceBounds, run_sliceBound]

theorem optInt_sat {w0 : Base} {w : World} {a : Act} {st : St} {ω : Own} {τ : Nat → Nat × Value} (hrel : RelAt w0 st a w ω τ) {x : Option Operand} {r : Option Int} (h : optInt st x = some r) :
    (x.map a.eval = none ∧ r = none) ∨ ∃ k n, x.map a.eval = some (.int k n) ∧ r = some n := by
  cases x with
  | none => simp [optInt] at h; exact .inl ⟨rfl, h.symm⟩
  | some x =>
    simp only [optInt, Option.map_eq_some_iff] at h
    obtain ⟨⟨k, n⟩, h1, h2⟩ := h
    exact .inr ⟨k, n, by simp [PV.int_sat h1 (hrel.ev x)], h2.symm⟩

theorem stepSlice_ok {P : Program} {w0 : Base} {w : World} {a : Act} {st : St} {ω : Own} {τ : Nat → Nat × Value} {t : TypeId} {p r : PV} {v : Value} {lo hi mx : Option Operand} {ans ans' : List Ans} {obs : List Prop}
    (hrel : RelAt w0 st a w ω τ) (hp : SatP (Sat w ω τ) p v) (h : stepSlice P st t p lo hi mx ans = some (r, ans', obs)) (ho : Obs obs) :
    ∃ z, (Instr.sliceAt t v (lo.map a.eval) (hi.map a.eval) (mx.map a.eval)).run P w = .ok z w ∧ SatP (Sat w ω τ) r z := by
  unfold stepSlice at h
  split at h
  · rename_i e k tag k' es e1 e2
    split at h
    · rename_i hk
      subst hk
      split at h
      · rename_i l hh e3 e4
        simp only [Option.some.injEq, Prod.mk.injEq] at h
        obtain ⟨rfl, _, rfl⟩ := h
        obtain ⟨hu, i, hi', hz⟩ := elemOf_spec e1
        obtain ⟨hr, _⟩ := PV.view_sat e2 hp
        obtain ⟨o1, o2, o3, _⟩ := ho
        have h3 := optInt_sat hrel e3
        have h4 := optInt_sat hrel e4
        have hl' : (lo.map a.eval = none ∧ l.getD 0 = 0) ∨ ∃ k, lo.map a.eval = some (.int k (l.getD 0)) := by
          rcases h3 with ⟨h, rfl⟩ | ⟨k, n, h, rfl⟩
          · exact .inl ⟨h, rfl⟩
          · exact .inr ⟨k, h⟩
        have hh' : (hi.map a.eval = none ∧ hh.getD es.length = es.length) ∨ ∃ k, hi.map a.eval = some (.int k (hh.getD es.length)) := by
          rcases h4 with ⟨h, rfl⟩ | ⟨k, n, h, rfl⟩
          · exact .inl ⟨h, rfl⟩
          · exact .inr ⟨k, h⟩
        cases hr with
        | nil _ _ a0 =>
          simp only [List.length_nil] at *
          have e0 : l.getD 0 = 0 := by omega
          have e0' : hh.getD ((0 : Nat) : Int) = 0 := by omega
          refine ⟨.slice a0 0 0, ?_, ?_⟩
          · simp only [Instr.sliceAt, Sem.run_bind, run_underlying hu, Result.andThen_ok, Instr.slice, Option.map_none]
            rw [run_sliceBounds hl' hh' o1 o2 o3]
            have e0'' : hh.getD 0 = 0 := by simpa using e0'
            simp [sizeOf, typeInfo, hi', e0, e0'']
          · refine ⟨?_, Tag.ro'_hdr⟩
            simp only [List.drop_nil, List.take_nil]
            exact .nil _ _ _
        | row R k es b off cap arr ty fr us hb hR hc hs hk hu' hd =>
          refine ⟨sliced (some ⟨b, off, none⟩) (l.getD 0).toNat (hh.getD es.length).toNat cap k, ?_, ?_, Tag.ro'_hdr⟩
          · simp only [Instr.sliceAt, Sem.run_bind, run_underlying hu, Result.andThen_ok, Instr.slice, Option.map_none]
            rw [run_sliceBounds hl' hh' o1 o2 (by omega)]
            simp [sizeOf, typeInfo, hi', hz, sliced]
          · exact Rep.sub (.row _ k es b off cap arr ty fr us hb hR hc hs hk hu' hd) (by omega) (by omega) (fun o h => Tag.ro'_R h) (fun i j q o _ h => Tag.ro'_R h)
      · cases h
    · cases h
  · cases h
end Go.Sx

namespace Go.Sx
open Go.RowKit

def Leaf.ok : Leaf → Bool
  | .und => false
  | .v x => x.oneCell'
  | _ => true

theorem Rep.oneCell {w : World} {ω : Own} {R : List (Nat × Nat) → Owner → Prop} {d : D} {y : Value} (h : Rep w ω R d y) : y.oneCell' = true := by
  cases h with
  | v R x h1 => exact h1
  | nil => rfl
  | row => rfl
  | ptr => rfl
  | cl => rfl

theorem Leaf.ok_cell {w : World} {ω : Own} {τ : Nat → Nat × Value} {l : Leaf} {y : Value} (h : l.ok = true) (hs : Sat w ω τ l y) : y.oneCell' = true := by
  cases l with
  | und => cases h
  | v x => have : y = x := hs; subst this; exact h
  | sb c => have : y = .bool c := hs; subst this; rfl
  | sl t k es => exact hs.1.oneCell
  | ptr id off => obtain ⟨b, _, rfl⟩ := hs; rfl
  | ep t k es i j => obtain ⟨b, off, cap, rfl, _⟩ := hs; rfl
  | rp ds off => obtain ⟨b, rfl, _⟩ := hs; rfl
  | fd d => exact Rep.oneCell hs
  | sv t k es => exact hs.1.oneCell
  | clo g ids => obtain ⟨bs, rfl, _⟩ := hs; rfl
  | sn t i j k es m =>
    obtain ⟨u, hu, hr, _⟩ := hs
    cases m with
    | at_ x y => obtain ⟨b, off, cap, _, rfl, _⟩ := hu; rfl
    | here => have : y = u := hu; subst this; exact hr.oneCell
    | away => have : y = u := hu; subst this; exact hr.oneCell
  | np t vs => obtain ⟨b, ty, arr, rfl, _⟩ := hs; rfl

theorem oneCell_cells {y : Value} (h : y.oneCell' = true) : y.cells = #[y] := by
  cases y <;> first | rfl | (simp [Value.oneCell'] at h)

def PV.leaves : PV → Option (List Leaf)
  | .al (.one l) => if l.ok then some [l] else none
  | .al (.agg ls) => if ls.all Leaf.ok then some ls else none
  | _ => none

theorem PV.leaves_sat {w : World} {ω : Own} {τ : Nat → Nat × Value} {p : PV} {ls : List Leaf} {y : Value} (h : p.leaves = some ls) (hs : SatP (Sat w ω τ) p y) :
    SatL (Sat w ω τ) ls y.cells ∧ ∀ u ∈ y.cells.toList, u.oneCell' = true := by
  unfold PV.leaves at h
  split at h
  · rename_i l
    split at h
    · rename_i hok
      simp only [Option.some.injEq] at h
      subst h
      have h1 := Leaf.ok_cell hok hs
      rw [oneCell_cells h1]
      refine ⟨⟨rfl, fun i l' hl => ?_⟩, by simpa using h1⟩
      cases i with
      | zero => simp at hl; subst hl; exact ⟨y, rfl, hs⟩
      | succ i => simp at hl
    · cases h
  · rename_i ls'
    split at h
    · rename_i hok
      simp only [Option.some.injEq] at h
      subst h
      obtain ⟨vs, rfl, hn, hv⟩ := hs
      refine ⟨⟨hn, hv⟩, fun u hu => ?_⟩
      obtain ⟨i, hi⟩ := List.mem_iff_getElem?.1 hu
      have hlt : i < ls'.length := by
        have := (List.getElem?_eq_some_iff.1 hi).1
        simp [Value.cells] at this
        omega
      obtain ⟨u', h1, h2⟩ := hv i ls'[i] (by simp)
      have e : u = u' := by
        have : (Value.agg vs).cells.toList[i]? = vs[i]? := by simp [Value.cells]
        rw [this, h1] at hi
        exact (Option.some.inj hi).symm
      subst e
      exact Leaf.ok_cell (List.all_eq_true.1 hok _ (List.getElem_mem hlt)) h2
    · cases h
  · cases h

theorem foldl_set_get (off : Nat) : ∀ (vs : List Value) (k : Nat) (cells : Array Value) (i : Nat), off + k + vs.length ≤ cells.size →
    ((vs.zipIdx k).foldl (fun cs (x : Value × Nat) => cs.setIfInBounds (off + x.2) x.1) cells)[i]? = if off + k ≤ i ∧ i < off + k + vs.length then vs[i - (off + k)]? else cells[i]?
  | [], k, cells, i, _ => by simp; intro h1 h2; omega
  | v :: vs, k, cells, i, h => by
    simp only [List.zipIdx_cons, List.foldl_cons, List.length_cons] at h ⊢
    rw [foldl_set_get off vs (k + 1) _ i (by simp; omega), Array.getElem?_setIfInBounds]
    by_cases h1 : off + k = i
    · subst h1
      rw [if_neg (by omega), if_pos rfl, if_pos (by omega), if_pos (by omega)]
      simp
    · by_cases h2 : off + (k + 1) ≤ i ∧ i < off + (k + 1) + vs.length
      · rw [if_pos h2, if_pos (by omega)]
        obtain ⟨j, hj⟩ : ∃ j, i - (off + k) = j + 1 := ⟨i - (off + k) - 1, by omega⟩
        rw [hj, List.getElem?_cons_succ]
        congr 1
        omega
      · rw [if_neg h2, if_neg h1, if_neg (by omega)]

theorem foldl_set_size (off : Nat) : ∀ (l : List (Value × Nat)) (cells : Array Value), (l.foldl (fun cs (x : Value × Nat) => cs.setIfInBounds (off + x.2) x.1) cells).size = cells.size
  | [], _ => rfl
  | x :: l, cells => by simp only [List.foldl_cons]; rw [foldl_set_size off l]; simp

def blit (ls : List Leaf) (off : Nat) (xs : List Leaf) : List Leaf := ls.take off ++ (xs ++ ls.drop (off + xs.length))

theorem blit_get {ls xs : List Leaf} {off i : Nat} (h : off + xs.length ≤ ls.length) : (blit ls off xs)[i]? = if off ≤ i ∧ i < off + xs.length then xs[i - off]? else ls[i]? := by
  unfold blit
  rw [List.getElem?_append, List.length_take, Nat.min_eq_left (by omega)]
  by_cases h1 : i < off
  · rw [if_pos h1, if_neg (by omega), List.getElem?_take, if_pos h1]
  · rw [if_neg h1, List.getElem?_append]
    by_cases h2 : i - off < xs.length
    · rw [if_pos h2, if_pos (by omega)]
    · rw [if_neg h2, if_neg (by omega), List.getElem?_drop]
      congr 1
      omega

theorem blit_length {ls xs : List Leaf} {off : Nat} (h : off + xs.length ≤ ls.length) : (blit ls off xs).length = ls.length := by
  simp [blit]; omega

def fillL (place : Nat → Option (Nat × Nat)) (ls : List Leaf) : List (Nat × PV) → Option (List Leaf)
  | [] => some ls
  | (i, p) :: rest =>
    match place i, p.leaves with
    | some (off, size), some xs => if xs.length = size ∧ off + size ≤ ls.length then fillL place (blit ls off xs) rest else none
    | _, _ => none

theorem fillL_ok {w : World} {ω : Own} {τ : Nat → Nat × Value} {place : Nat → Option (Nat × Nat)} : ∀ {parts : List (Nat × PV)} {vals : List (Nat × Value)} {ls r : List Leaf} {cells : Array Value},
    parts.length = vals.length → (∀ (j : Nat) i p, parts[j]? = some (i, p) → ∃ v, vals[j]? = some (i, v) ∧ SatP (Sat w ω τ) p v) → fillL place ls parts = some r → SatL (Sat w ω τ) ls cells →
    ∃ out, Instr.fill place cells vals = some out ∧ SatL (Sat w ω τ) r out
  | [], vals, ls, r, cells, hn, _, h, hs => by
    have : vals = [] := List.eq_nil_of_length_eq_zero (by simpa using hn.symm)
    subst this
    simp only [fillL, Option.some.injEq] at h
    subst h
    exact ⟨cells, rfl, hs⟩
  | (i, p) :: parts, vals, ls, r, cells, hn, hp, h, hs => by
    obtain ⟨v, hv, hsat⟩ := hp 0 i p rfl
    cases vals with
    | nil => simp at hv
    | cons x vals =>
      simp only [List.getElem?_cons_zero, Option.some.injEq] at hv
      subst hv
      simp only [fillL] at h
      split at h
      · rename_i off size xs e1 e2
        split at h
        · rename_i hc
          obtain ⟨hc1, hc2⟩ := hc
          obtain ⟨⟨hsz, hxs⟩, _⟩ := PV.leaves_sat e2 hsat
          have hsz' : v.cells.size = size := by omega
          have hcs : off + v.cells.size ≤ cells.size := by have := hs.1; omega
          have hnew : SatL (Sat w ω τ) (blit ls off xs) (v.cells.zipIdx.foldl (fun cs (c, j) => cs.setIfInBounds (off + j) c) cells) := by
            have e : v.cells.zipIdx.foldl (fun cs (c, j) => cs.setIfInBounds (off + j) c) cells = (v.cells.toList.zipIdx 0).foldl (fun cs (x : Value × Nat) => cs.setIfInBounds (off + x.2) x.1) cells := by
              rw [← Array.foldl_toList]
              simp
            rw [e]
            refine ⟨by rw [foldl_set_size, blit_length (by omega)]; exact hs.1, fun j l hl => ?_⟩
            rw [blit_get (by omega)] at hl
            rw [foldl_set_get off _ 0 _ _ (by simp; omega)]
            simp only [Array.length_toList, Nat.add_zero]
            by_cases hj : off ≤ j ∧ j < off + xs.length
            · rw [if_pos hj] at hl
              rw [if_pos (by omega)]
              obtain ⟨u, h1, h2⟩ := hxs _ _ hl
              exact ⟨u, by simpa using h1, h2⟩
            · rw [if_neg hj] at hl
              rw [if_neg (by omega)]
              exact hs.2 _ _ hl
          obtain ⟨out, h1, h2⟩ := fillL_ok (parts := parts) (vals := vals) (by simpa using hn) (fun j i' p' hj => by have := hp (j + 1) i' p' (by simpa using hj); simpa using this) h hnew
          refine ⟨out, ?_, h2⟩
          simp only [Instr.fill, e1]
          rw [if_neg (by simp; omega)]
          exact h1
        · cases h
      · cases h

def structPlace (P : Program) (t : TypeId) (f : Nat) : Option (Nat × Nat) :=
  match P.underlying t with
  | some (.struct fs) =>
    match fs[f]? with
    | some fd => (P.info? fd.type).map fun i => (fd.offset, i.size)
    | none => none
  | _ => none

def stepBuild (P : Program) (st : St) (t : TypeId) (parts : List (Nat × Operand)) (ans : List Ans) : Got :=
  match P.underlying t, P.info? t with
  | some (.struct fs), some i =>
    match i.zero with
    | some z =>
      if fs.toList.all fun f => (P.info? f.type).isSome then
        (fillL (structPlace P t) (z.cells.toList.map .v) (parts.map fun x => (x.1, st.ev x.2))).map fun ls => (.agg ls, ans, [])
      else none
    | none => none
  | _, _ => none

theorem mapM_sizes {P : Program} (w : World) : ∀ (fs : List Field), (∀ f ∈ fs, (P.info? f.type).isSome = true) →
    (fs.mapM fun f => (do pure (f.offset, ← sizeOf f.type) : Sem (Nat × Nat))).run P w = .ok (fs.map fun f => (f.offset, ((P.info? f.type).map (·.size)).getD 0)) w
  | [], _ => by simp
  | f :: fs, h => by
    obtain ⟨i, hi⟩ := Option.isSome_iff_exists.1 (h f (by simp))
    have ih := mapM_sizes (P := P) w fs (fun g hg => h g (by simp [hg]))
    simp only [List.mapM_cons, Sem.run_bind, sizeOf, typeInfo, run_program, Result.andThen_ok, hi, Sem.run_pure, List.map_cons, Option.map_some, Option.getD_some]
    simp only [Sem.run_bind, sizeOf, typeInfo, Sem.run_pure] at ih
    rw [ih]
    simp

theorem run_arr_mapM {P : Program} {α β : Type} (f : α → Sem β) (xs : Array α) (w : World) (r : List β) (h : (xs.toList.mapM f).run P w = .ok r w) : (xs.mapM f).run P w = .ok r.toArray w := by
  rw [← Array.toArray_toList (xs := xs), List.mapM_toArray]
  rw [← bind_pure_comp, Sem.run_bind, h]
  rfl

theorem stepBuild_ok {P : Program} {w0 : Base} {w : World} {a : Act} {st : St} {ω : Own} {τ : Nat → Nat × Value} {t : TypeId} {parts : Array (Nat × Operand)} {r : PV} {ans ans' : List Ans} {obs : List Prop}
    (hrel : RelAt w0 st a w ω τ) (h : stepBuild P st t parts.toList ans = some (r, ans', obs)) :
    ∃ z, (Instr.build t (parts.map fun (i, x) => (i, a.eval x))).run P w = .ok z w ∧ SatP (Sat w ω τ) r z := by
  unfold stepBuild at h
  split at h
  · rename_i fs i hu hi
    split at h
    · rename_i z hz
      split at h
      · rename_i hall
        rw [Option.map_eq_some_iff] at h
        obtain ⟨ls, h1, h⟩ := h
        simp only [Prod.mk.injEq] at h
        obtain ⟨rfl, _, _⟩ := h
        have hzs : SatL (Sat w ω τ) (z.cells.toList.map .v) z.cells := by
          refine ⟨by simp, fun j l hl => ?_⟩
          rw [List.getElem?_map, Option.map_eq_some_iff] at hl
          obtain ⟨u, hu, rfl⟩ := hl
          exact ⟨u, by simpa using hu, rfl⟩
        obtain ⟨out, h2, h3⟩ := fillL_ok (vals := parts.toList.map fun x => (x.1, a.eval x.2)) (by simp) (fun j i' p hj => by
          rw [List.getElem?_map, Option.map_eq_some_iff] at hj
          obtain ⟨⟨i2, x⟩, hx, e⟩ := hj
          simp only [Prod.mk.injEq] at e
          obtain ⟨rfl, rfl⟩ := e
          exact ⟨a.eval x, by simp only [List.getElem?_map, hx, Option.map_some], hrel.ev x⟩) h1 hzs
        have hm := run_arr_mapM (P := P) (fun f : Field => (do pure (f.offset, ← sizeOf f.type) : Sem (Nat × Nat))) fs w _ (mapM_sizes (P := P) w fs.toList (fun f hf => List.all_eq_true.1 hall f hf))
        have hplace : (fun x => (fs.toList.map fun f => (f.offset, ((P.info? f.type).map (·.size)).getD 0)).toArray[x]?) = structPlace P t := by
          funext x
          simp only [List.getElem?_toArray, List.getElem?_map, Array.getElem?_toList, structPlace, hu]
          cases hx : fs[x]? with
          | none => rfl
          | some fd =>
            have : (P.info? fd.type).isSome = true := List.all_eq_true.1 hall fd (by simpa using Array.mem_of_getElem? hx)
            obtain ⟨i', hi'⟩ := Option.isSome_iff_exists.1 this
            simp [hi']
        refine ⟨.agg out, ?_, out, rfl, h3⟩
        simp only [Instr.build, Sem.run_bind, zeroValue, typeInfo, run_program, Result.andThen_ok, hi, Sem.run_pure, hz, run_underlying hu, hm, hplace]
        have e : (Array.map (fun (x : Nat × Operand) => (x.1, a.eval x.2)) parts).toList = parts.toList.map fun x => (x.1, a.eval x.2) := by simp
        simp only [e, h2, Sem.run_pure]
      · cases h
    · cases h
  · cases h

def stepExtract (p : PV) (ix : Nat) (ans : List Ans) : Got :=
  match p with
  | .tup as => (as[ix]?).map fun a => (.al a, ans, [])
  | _ => none

theorem stepExtract_ok {P : Program} {w : World} {ω : Own} {τ : Nat → Nat × Value} {p r : PV} {ix : Nat} {v : Value} {ans ans' : List Ans} {obs : List Prop}
    (hp : SatP (Sat w ω τ) p v) (h : stepExtract p ix ans = some (r, ans', obs)) : ∃ z, (Instr.extract v ix).run P w = .ok z w ∧ SatP (Sat w ω τ) r z := by
  unfold stepExtract at h
  split at h
  · rename_i as
    rw [Option.map_eq_some_iff] at h
    obtain ⟨al, h1, h⟩ := h
    simp only [Prod.mk.injEq] at h
    obtain ⟨rfl, _, _⟩ := h
    obtain ⟨vs, rfl, hn, hv⟩ := hp
    obtain ⟨u, h2, h3⟩ := hv _ _ h1
    exact ⟨u, by simp [Instr.extract, h2], h3⟩
  · cases h

def stepFieldV (P : Program) (t : TypeId) (p : PV) (f : Nat) (ans : List Ans) : Got :=
  match P.underlying t with
  | some (.struct fs) =>
    match fs[f]? with
    | some fd =>
      match isAggT P fd.type, P.info? fd.type, p with
      | some agg, some i, .al (.agg ls) => (loaded agg i.size ls fd.offset).map fun r => (r, ans, [])
      | _, _, _ => none
    | none => none
  | _ => none

theorem stepFieldV_ok {P : Program} {w : World} {ω : Own} {τ : Nat → Nat × Value} {t : TypeId} {p r : PV} {f : Nat} {v : Value} {ans ans' : List Ans} {obs : List Prop}
    (hp : SatP (Sat w ω τ) p v) (h : stepFieldV P t p f ans = some (r, ans', obs)) : ∃ z, (Instr.field t v f).run P w = .ok z w ∧ SatP (Sat w ω τ) r z := by
  unfold stepFieldV at h
  split at h
  · rename_i fs hu
    split at h
    · rename_i fd hf
      split at h
      · rename_i agg i ls e1 e2
        rw [Option.map_eq_some_iff] at h
        obtain ⟨r', h1, h⟩ := h
        simp only [Prod.mk.injEq] at h
        obtain ⟨rfl, _, _⟩ := h
        obtain ⟨vs, rfl, hn, hv⟩ := hp
        unfold loaded at h1
        cases agg with
        | true =>
          simp only [if_true] at h1
          split at h1
          · rename_i hle
            simp only [Option.some.injEq] at h1
            subst h1
            refine ⟨.agg (vs.extract fd.offset (fd.offset + i.size)), by simp [Instr.field, run_underlying hu, hf, asAgg, part, isAggT_run e1, sizeOf, typeInfo, e2], _, rfl, by simp; omega, fun j l hl => ?_⟩
            rw [List.getElem?_take] at hl
            split at hl
            · rw [List.getElem?_drop] at hl
              obtain ⟨u, h1, h2⟩ := hv _ l hl
              refine ⟨u, ?_, h2⟩
              rw [Array.getElem?_extract, if_pos (by omega), ← h1]
            · cases hl
          · cases h1
        | false =>
          simp only [Bool.false_eq_true, if_false, Option.map_eq_some_iff] at h1
          obtain ⟨l, hl, rfl⟩ := h1
          obtain ⟨u, h1, h2⟩ := hv _ l hl
          exact ⟨u, by simp [Instr.field, run_underlying hu, hf, asAgg, part, isAggT_run e1, h1], h2⟩
      · cases h
    · cases h
  · cases h

def stepUn (op : UnOp) (p : PV) (ans : List Ans) : Got :=
  match op, p.leaf with
  | .not, some (.sb c) => some (.one (.sb (!c)), ans, [])
  | .not, some (.v (.bool c)) => some (.one (.v (.bool (!c))), ans, [])
  | .neg, some (.v (.int k n)) => arith k (0 - n) ans
  | _, _ => none

theorem stepUn_ok {P : Program} {w : World} {ω : Own} {τ : Nat → Nat × Value} {op : UnOp} {p r : PV} {v : Value} {ans ans' : List Ans} {obs : List Prop}
    (hp : SatP (Sat w ω τ) p v) (h : stepUn op p ans = some (r, ans', obs)) (ho : Obs obs) : ∃ z, (Op.unary op v).run P w = .ok z w ∧ SatP (Sat w ω τ) r z := by
  unfold stepUn at h
  split at h
  · rename_i c e
    simp only [Option.some.injEq, Prod.mk.injEq] at h
    obtain ⟨rfl, _, _⟩ := h
    have : v = .bool c := PV.leaf_sat e hp
    subst this
    exact ⟨_, rfl, rfl⟩
  · rename_i c e
    simp only [Option.some.injEq, Prod.mk.injEq] at h
    obtain ⟨rfl, _, _⟩ := h
    have : v = .bool c := PV.leaf_sat e hp
    subst this
    exact ⟨_, rfl, rfl⟩
  · rename_i k n e
    have : v = .int k n := PV.leaf_sat e hp
    subst this
    exact ⟨_, rfl, arith_ok h ho⟩
  · cases h

def stepPick (c a b : PV) (ans : List Ans) : Got :=
  match c.leaf with
  | some (.v (.bool true)) => some (a, ans, [])
  | some (.v (.bool false)) => some (b, ans, [])
  | some (.sb c) =>
    match ans with
    | .br true :: r => some (a, r, [c = true])
    | .br false :: r => some (b, r, [c = false])
    | _ => none
  | _ => none

theorem stepPick_ok {P : Program} {w : World} {ω : Own} {τ : Nat → Nat × Value} {c a b r : PV} {u x y : Value} {ans ans' : List Ans} {obs : List Prop}
    (hc : SatP (Sat w ω τ) c u) (ha : SatP (Sat w ω τ) a x) (hb : SatP (Sat w ω τ) b y) (h : stepPick c a b ans = some (r, ans', obs)) (ho : Obs obs) :
    ∃ z, (do pure (.value (if ← asBool u then x else y)) : Sem Next).run P w = .ok (.value z) w ∧ SatP (Sat w ω τ) r z := by
  unfold stepPick at h
  split at h
  · rename_i e
    simp only [Option.some.injEq, Prod.mk.injEq] at h
    obtain ⟨rfl, _, _⟩ := h
    have : u = .bool true := PV.leaf_sat e hc
    subst this
    exact ⟨x, rfl, ha⟩
  · rename_i e
    simp only [Option.some.injEq, Prod.mk.injEq] at h
    obtain ⟨rfl, _, _⟩ := h
    have : u = .bool false := PV.leaf_sat e hc
    subst this
    exact ⟨y, rfl, hb⟩
  · rename_i c' e
    have : u = .bool c' := PV.leaf_sat e hc
    subst this
    split at h
    · simp only [Option.some.injEq, Prod.mk.injEq] at h
      obtain ⟨rfl, _, rfl⟩ := h
      have hc' : c' = true := ho.1
      subst hc'
      exact ⟨x, rfl, ha⟩
    · simp only [Option.some.injEq, Prod.mk.injEq] at h
      obtain ⟨rfl, _, rfl⟩ := h
      have hc' : c' = false := ho.1
      subst hc'
      exact ⟨y, rfl, hb⟩
    · cases h
  · cases h

def stepConvert (P : Program) (src dst : TypeId) (p : PV) (ans : List Ans) : Got :=
  match P.underlying src, P.underlying dst, p.int with
  | some _, some (.int k), some (_, n) => arith k n ans
  | _, _, _ => none

theorem stepConvert_ok {P : Program} {w : World} {ω : Own} {τ : Nat → Nat × Value} {src dst : TypeId} {p r : PV} {v : Value} {ans ans' : List Ans} {obs : List Prop}
    (hp : SatP (Sat w ω τ) p v) (h : stepConvert P src dst p ans = some (r, ans', obs)) (ho : Obs obs) : ∃ z, (convert src dst v).run P w = .ok z w ∧ SatP (Sat w ω τ) r z := by
  unfold stepConvert at h
  split at h
  · rename_i d k kk n e1 e2 e3
    rw [PV.int_sat e3 hp]
    exact ⟨_, by simp [convert, run_underlying e1, run_underlying e2, Conv.intToInt], arith_ok h ho⟩
  · cases h

def stepIndex (P : Program) (t : TypeId) (p q : PV) (ans : List Ans) : Got :=
  match P.underlying t, p.leaf, q.int with
  | some .string, some (.v (.string s)), some (_, n) =>
    match ans with
    | .num m :: r => some (.one (.v (.int .u8 m)), r, [0 ≤ n, (s[n.toNat]?).map (fun b => ((b.toNat : Nat) : Int)) = some m])
    | _ => none
  | _, _, _ => none

theorem stepIndex_ok {P : Program} {w : World} {ω : Own} {τ : Nat → Nat × Value} {t : TypeId} {p q r : PV} {u v : Value} {ans ans' : List Ans} {obs : List Prop}
    (hp : SatP (Sat w ω τ) p u) (hq : SatP (Sat w ω τ) q v) (h : stepIndex P t p q ans = some (r, ans', obs)) (ho : Obs obs) : ∃ z, (Instr.index t u v).run P w = .ok z w ∧ SatP (Sat w ω τ) r z := by
  unfold stepIndex at h
  split at h
  · rename_i s kk n e1 e2 e3
    split at h
    · rename_i m rr
      simp only [Option.some.injEq, Prod.mk.injEq] at h
      obtain ⟨rfl, _, rfl⟩ := h
      obtain ⟨h0, h1, _⟩ := ho
      have : u = .string s := PV.leaf_sat e2 hp
      subst this
      rw [PV.int_sat e3 hq]
      rw [Option.map_eq_some_iff] at h1
      obtain ⟨b, hb, hm⟩ := h1
      exact ⟨.int .u8 m, by simp [Instr.index, asIntOf, run_underlying e1, h0, hb, hm], rfl⟩
    · cases h
  · cases h

def stepMin (p q : PV) (ans : List Ans) : Got :=
  match p.int, q.int with
  | some (k, a), some (_, b) => some (.one (.v (.int k (if b < a then b else a))), ans, [])
  | _, _ => none
def stepMax (p q : PV) (ans : List Ans) : Got :=
  match p.int, q.int with
  | some (k, a), some (_, b) => some (.one (.v (.int k (if b > a then b else a))), ans, [])
  | _, _ => none

theorem stepMin_ok {P : Program} {w : World} {ω : Own} {τ : Nat → Nat × Value} {ts : Array TypeId} {ty : TypeId} {p q r : PV} {u v : Value} {ans ans' : List Ans} {obs : List Prop}
    (hp : SatP (Sat w ω τ) p u) (hq : SatP (Sat w ω τ) q v) (h : stepMin p q ans = some (r, ans', obs)) : ∃ z, (Builtin.min_ ts ty #[u, v]).run P w = .ok z w ∧ SatP (Sat w ω τ) r z := by
  unfold stepMin at h
  split at h
  · rename_i k a kk b e1 e2
    simp only [Option.some.injEq, Prod.mk.injEq] at h
    obtain ⟨rfl, _, _⟩ := h
    rw [PV.int_sat e1 hp, PV.int_sat e2 hq]
    exact ⟨_, by simp [Builtin.min_, Builtin.min2], rfl⟩
  · cases h

theorem stepMax_ok {P : Program} {w : World} {ω : Own} {τ : Nat → Nat × Value} {ts : Array TypeId} {ty : TypeId} {p q r : PV} {u v : Value} {ans ans' : List Ans} {obs : List Prop}
    (hp : SatP (Sat w ω τ) p u) (hq : SatP (Sat w ω τ) q v) (h : stepMax p q ans = some (r, ans', obs)) : ∃ z, (Builtin.max_ ts ty #[u, v]).run P w = .ok z w ∧ SatP (Sat w ω τ) r z := by
  unfold stepMax at h
  split at h
  · rename_i k a kk b e1 e2
    simp only [Option.some.injEq, Prod.mk.injEq] at h
    obtain ⟨rfl, _, _⟩ := h
    rw [PV.int_sat e1 hp, PV.int_sat e2 hq]
    exact ⟨_, by simp [Builtin.max_, Builtin.max2], rfl⟩
  · cases h

def stepNil (p : PV) (ans : List Ans) : Got :=
  match p.leaf with
  | some (.ptr id off) => some (.one (.ptr id off), ans, [])
  | some (.ep t k es i j) => some (.one (.ep t k es i j), ans, [])
  | some (.rp ds off) => some (.one (.rp ds off), ans, [])
  | some (.sn t i j k es (.at_ x y)) => some (.one (.sn t i j k es (.at_ x y)), ans, [])
  | _ => none

/-- The boxes that are captured. -/
def ptrId (p : PV) : Option Nat :=
  match p.leaf with
  | some (.ptr id 0) => some id
  | _ => none

/-- A captured value that leads to nothing of the call's own. -/
def capD (p : PV) : Option D :=
  match p.leaf with
  | some (.rp ds 0) => some (.ptr ds)
  | some (.v x) => if x.oneCell' then some (.v x) else none
  | _ => none

def stepMakeFunc (st : St) (fn : Fn) (first captured : List Operand) (ans : List Ans) : Got :=
  match fn, first with
  | .func g, [] =>
    match (captured.map st.ev).mapM ptrId with
    | some ids => some (.one (.clo g ids), ans, [])
    | none =>
      match (captured.map st.ev).mapM capD with
      | some ds => some (.one (.fd (.cl g ds)), ans, [])
      | none => none
  | _, _ => none

theorem mapM_at {α β : Type} {f : α → Option β} : ∀ {xs : List α} {ys : List β}, xs.mapM f = some ys → ys.length = xs.length ∧ ∀ (i : Nat) (y : β), ys[i]? = some y → ∃ x, xs[i]? = some x ∧ f x = some y
  | [], ys, h => by simp at h; subst h; simp
  | x :: xs, ys, h => by
    rw [List.mapM_cons] at h
    cases e : f x with
    | none => simp [e] at h
    | some y =>
      cases e2 : xs.mapM f with
      | none => simp [e, e2] at h
      | some zs =>
        simp [e, e2] at h
        subst h
        obtain ⟨h1, h2⟩ := mapM_at e2
        refine ⟨by simp [h1], fun i y' hi => ?_⟩
        cases i with
        | zero => simp at hi; subst hi; exact ⟨x, rfl, e⟩
        | succ i => simpa using h2 i y' (by simpa using hi)

theorem stepMakeFunc_ok {P : Program} {w0 : Base} {w : World} {a : Act} {st : St} {ω : Own} {τ : Nat → Nat × Value} {fn : Fn} {first captured : Array Operand} {r : PV} {ans ans' : List Ans} {obs : List Prop}
    (hrel : RelAt w0 st a w ω τ) (h : stepMakeFunc st fn first.toList captured.toList ans = some (r, ans', obs)) :
    ∃ z, (Instr.makeFunc fn (first.map a.eval) (captured.map a.eval)).run P w = .ok z w ∧ SatP (Sat w ω τ) r z := by
  unfold stepMakeFunc at h
  split at h
  · rename_i g hfirst
    have hf : first = #[] := by
      rcases first with ⟨l⟩
      simpa using hfirst
    subst hf
    refine ⟨.func (.func g) #[] (captured.map a.eval), by simp [Instr.makeFunc], ?_⟩
    have hev : ∀ (i : Nat) (x : PV), (captured.toList.map st.ev)[i]? = some x → ∃ v, (captured.map a.eval)[i]? = some v ∧ SatP (Sat w ω τ) x v := by
      intro i x hx
      rw [List.getElem?_map, Option.map_eq_some_iff] at hx
      obtain ⟨o, ho, rfl⟩ := hx
      refine ⟨a.eval o, ?_, hrel.ev o⟩
      rw [Array.getElem?_map]
      rw [Array.getElem?_toList] at ho
      rw [ho]; rfl
    split at h
    · rename_i ids hids
      simp only [Option.some.injEq, Prod.mk.injEq] at h
      obtain ⟨rfl, _, _⟩ := h
      obtain ⟨hn, hg⟩ := mapM_at hids
      have hex : ∀ i, i < ids.length → ∃ b id, ids[i]? = some id ∧ (captured.map a.eval)[i]? = some (ptrTo b) ∧ ω b = .box id := by
        intro i hi
        obtain ⟨x, hx, hx2⟩ := hg i ids[i] (by simp [hi])
        obtain ⟨v, hv, hs⟩ := hev i x hx
        unfold ptrId at hx2
        split at hx2
        · rename_i id hl
          simp only [Option.some.injEq] at hx2
          obtain ⟨b, hb, rfl⟩ := PV.leaf_sat hl hs
          exact ⟨b, id, by simp [hi, hx2], hv, hb⟩
        · cases hx2
      have hsz : (captured.map a.eval).size = ids.length := by simp at hn; simp [hn]
      let bs := (List.range ids.length).map fun i => (match (captured.map a.eval)[i]? with | some (.pointer (some p)) => p.block | _ => 0)
      refine ⟨bs, ?_, by simp [bs], fun i id hid => ?_⟩
      · congr 1
        apply Array.ext
        · simp [bs, hsz]
        · intro i h1 h2
          obtain ⟨b, id, _, hv, _⟩ := hex i (by rw [← hsz]; exact h1)
          have hv' := hv
          rw [Array.getElem?_eq_getElem h1, Option.some.injEq] at hv'
          rw [hv']
          have e : bs[i]'(by simpa using h2) = b := by simp only [bs, List.getElem_map, List.getElem_range, hv, ptrTo]
          simp [e]
      · have hi := (List.getElem?_eq_some_iff.1 hid).1
        obtain ⟨b, id', hid', hv, hb⟩ := hex i hi
        rw [hid] at hid'
        have := Option.some.inj hid'
        subst this
        refine ⟨b, ?_, hb⟩
        simp only [bs, List.getElem?_map, List.getElem?_range hi, Option.map_some, hv, ptrTo]
    · split at h
      · rename_i ds hds
        simp only [Option.some.injEq, Prod.mk.injEq] at h
        obtain ⟨rfl, _, _⟩ := h
        obtain ⟨hn, hg⟩ := mapM_at hds
        refine Rep.cl _ g ds (captured.map a.eval) (fun j => (captured.map a.eval).getD j undef) (by simp at hn; simp [hn]) (fun j d hd => ?_) (fun j d hd => ?_)
        · obtain ⟨x, hx, _⟩ := hg j d hd
          obtain ⟨v, hv, _⟩ := hev j x hx
          rw [hv]; simp only [Array.getD_eq_getD_getElem?, hv, Option.getD_some]
        · obtain ⟨x, hx, hx2⟩ := hg j d hd
          obtain ⟨v, hv, hs⟩ := hev j x hx
          have e : (captured.map a.eval).getD j undef = v := by simp only [Array.getD_eq_getD_getElem?, hv, Option.getD_some]
          rw [e]
          unfold capD at hx2
          split at hx2
          · rename_i ds' hl
            simp only [Option.some.injEq] at hx2
            subst hx2
            obtain ⟨b, rfl, hr⟩ := PV.leaf_sat hl hs
            exact hr.frame fun b q hb hq => ⟨hq, rfl⟩
          · rename_i y hl
            split at hx2
            · rename_i hoc
              simp only [Option.some.injEq] at hx2
              subst hx2
              have : v = y := PV.leaf_sat hl hs
              subst this
              exact .v _ _ hoc
            · cases hx2
          · cases hx2
      · cases h
  · cases h

def stepBuiltin (P : Program) (st : St) (b : Builtin) (args : List Operand) (ts : List TypeId) (ans : List Ans) : Got :=
  match b, args, ts with
  | .len, [x], [t] => stepLen P t (st.ev x) ans
  | .min, [x, y], _ => stepMin (st.ev x) (st.ev y) ans
  | .max, [x, y], _ => stepMax (st.ev x) (st.ev y) ans
  | _, _, _ => none

/-- All that only computes. -/
def pureStep (P : Program) (st : St) (op : Op) (ans : List Ans) : Got :=
  match op with
  | .move x | .assign x => some (st.ev x, ans, [])
  | .pick c a b => stepPick (st.ev c) (st.ev a) (st.ev b) ans
  | .load t x => stepLoad P st t (st.ev x) ans
  | .nilCheck x => stepNil (st.ev x) ans
  | .binOp op t x y _ => stepBin P op t x y (st.ev x) (st.ev y) ans
  | .unOp op _ x => stepUn op (st.ev x) ans
  | .convert s d x => stepConvert P s d (st.ev x) ans
  | .slice t x lo hi mx => stepSlice P st t (st.ev x) lo hi mx ans
  | .fieldAddr s x f => stepField P s (st.ev x) f ans
  | .field t x f => stepFieldV P t (st.ev x) f ans
  | .indexAddr t x i => stepIndexAddr P t (st.ev x) (st.ev i) ans
  | .index t x i => stepIndex P t (st.ev x) (st.ev i) ans
  | .extract x i => stepExtract (st.ev x) i ans
  | .build t parts => stepBuild P st t parts.toList ans
  | .call ⟨.builtin b, args, ts⟩ => stepBuiltin P st b args.toList ts.toList ans
  | .makeFunc fn first captured => stepMakeFunc st fn first.toList captured.toList ans
  | _ => none

theorem run_v {P : Program} {w w' : World} {s : Sem Value} {z : Value} (h : s.run P w = .ok z w') : (do pure (.value (← s)) : Sem Next).run P w = .ok (.value z) w' := by
  rw [Sem.run_bind, h]; rfl

theorem stepBuiltin_ok {P : Program} {w0 : Base} {w : World} {a : Act} {st : St} {ω : Own} {τ : Nat → Nat × Value} {b : Builtin} {args : Array Operand} {ts : Array TypeId} {ty : TypeId} {consts : Array Bool} {r : PV} {ans ans' : List Ans} {obs : List Prop}
    (hrel : RelAt w0 st a w ω τ) (h : stepBuiltin P st b args.toList ts.toList ans = some (r, ans', obs)) :
    ∃ z, (builtin b ts ty consts (args.map a.eval)).run P w = .ok (.value z) w ∧ SatP (Sat w ω τ) r z := by
  obtain ⟨args⟩ := args
  obtain ⟨ts⟩ := ts
  unfold stepBuiltin at h
  split at h
  · rename_i x t e1 e2
    simp only at e1 e2
    subst e1 e2
    obtain ⟨z, h1, h2⟩ := stepLen_ok (ty := ty) (hrel.ev x) h
    refine ⟨z, run_v (s := Builtin.len_ #[t] ty (Array.map a.eval #[x])) ?_, h2⟩
    simpa using h1
  · rename_i x y e1
    simp only at e1
    subst e1
    obtain ⟨z, h1, h2⟩ := stepMin_ok (P := P) (ts := ⟨ts⟩) (ty := ty) (hrel.ev x) (hrel.ev y) h
    refine ⟨z, run_v (s := Builtin.min_ ⟨ts⟩ ty (Array.map a.eval #[x, y])) ?_, h2⟩
    simpa using h1
  · rename_i x y e1
    simp only at e1
    subst e1
    obtain ⟨z, h1, h2⟩ := stepMax_ok (P := P) (ts := ⟨ts⟩) (ty := ty) (hrel.ev x) (hrel.ev y) h
    refine ⟨z, run_v (s := Builtin.max_ ⟨ts⟩ ty (Array.map a.eval #[x, y])) ?_, h2⟩
    simpa using h1
  · cases h

theorem pureStep_ok {P : Program} {w0 : Base} {w : World} {a : Act} {st : St} {ω : Own} {τ : Nat → Nat × Value} {o : Oper} {r : PV} {ans ans' : List Ans} {obs : List Prop}
    (hrel : RelAt w0 st a w ω τ) (h : pureStep P st o.op ans = some (r, ans', obs)) (ho : Obs obs) :
    ∃ z, (execOp a.eval o).run P w = .ok (.value z) w ∧ SatP (Sat w ω τ) r z := by
  obtain ⟨dst, op, type, pos, after, guard⟩ := o
  simp only at h
  unfold pureStep at h
  split at h
  · rename_i x
    simp only [Option.some.injEq, Prod.mk.injEq] at h
    obtain ⟨rfl, _, _⟩ := h
    exact ⟨a.eval x, rfl, hrel.ev x⟩
  · rename_i x
    simp only [Option.some.injEq, Prod.mk.injEq] at h
    obtain ⟨rfl, _, _⟩ := h
    exact ⟨a.eval x, rfl, hrel.ev x⟩
  · rename_i c x y
    exact stepPick_ok (hrel.ev c) (hrel.ev x) (hrel.ev y) h ho
  · rename_i t x
    obtain ⟨z, h1, h2⟩ := stepLoad_ok hrel (hrel.ev x) h ho
    exact ⟨z, run_v h1, h2⟩
  · rename_i x
    unfold stepNil at h
    split at h
    · rename_i id off e
      simp only [Option.some.injEq, Prod.mk.injEq] at h
      obtain ⟨rfl, _, _⟩ := h
      have hs := PV.leaf_sat e (hrel.ev x)
      obtain ⟨b, hb, hx⟩ := hs
      exact ⟨_, by simp only [execOp, hx]; rfl, b, hb, rfl⟩
    · rename_i t k es i j e
      simp only [Option.some.injEq, Prod.mk.injEq] at h
      obtain ⟨rfl, _, _⟩ := h
      have hs := PV.leaf_sat e (hrel.ev x)
      have hs' := hs
      obtain ⟨b, off, cap, hx, h1⟩ := hs
      refine ⟨_, by simp only [execOp, hx]; rfl, ?_⟩
      rw [← hx]
      exact hs'
    · rename_i ds off e
      simp only [Option.some.injEq, Prod.mk.injEq] at h
      obtain ⟨rfl, _, _⟩ := h
      have hs := PV.leaf_sat e (hrel.ev x)
      have hs' := hs
      obtain ⟨b, hx, h1⟩ := hs
      refine ⟨_, by simp only [execOp, hx]; rfl, ?_⟩
      rw [← hx]
      exact hs'
    · rename_i t i j k es xx yy e
      simp only [Option.some.injEq, Prod.mk.injEq] at h
      obtain ⟨rfl, _, _⟩ := h
      have hs := PV.leaf_sat e (hrel.ev x)
      have hs' := hs
      obtain ⟨u0, ⟨b, off, cap, _, hx, _⟩, _⟩ := hs
      refine ⟨_, by simp only [execOp, hx]; rfl, ?_⟩
      rw [← hx]
      exact hs'
    · cases h
  · rename_i op' t x y ty'
    obtain ⟨z, h1, h2⟩ := stepBin_ok (hrel.ev x) (hrel.ev y) h ho
    exact ⟨z, run_v h1, h2⟩
  · rename_i op' t x
    obtain ⟨z, h1, h2⟩ := stepUn_ok (hrel.ev x) h ho
    exact ⟨z, run_v h1, h2⟩
  · rename_i s d x
    obtain ⟨z, h1, h2⟩ := stepConvert_ok (hrel.ev x) h ho
    exact ⟨z, run_v h1, h2⟩
  · rename_i t x lo hi mx
    obtain ⟨z, h1, h2⟩ := stepSlice_ok hrel (hrel.ev x) h ho
    exact ⟨z, run_v h1, h2⟩
  · rename_i s x f
    obtain ⟨z, h1, h2⟩ := stepField_ok (hrel.ev x) h
    exact ⟨z, run_v h1, h2⟩
  · rename_i t x f
    obtain ⟨z, h1, h2⟩ := stepFieldV_ok (hrel.ev x) h
    exact ⟨z, run_v h1, h2⟩
  · rename_i t x i
    obtain ⟨z, h1, h2⟩ := stepIndexAddr_ok (hrel.ev x) (hrel.ev i) h ho
    exact ⟨z, run_v h1, h2⟩
  · rename_i t x i
    obtain ⟨z, h1, h2⟩ := stepIndex_ok (hrel.ev x) (hrel.ev i) h ho
    exact ⟨z, run_v h1, h2⟩
  · rename_i x i
    obtain ⟨z, h1, h2⟩ := stepExtract_ok (P := P) (hrel.ev x) h
    exact ⟨z, run_v h1, h2⟩
  · rename_i t parts
    obtain ⟨z, h1, h2⟩ := stepBuild_ok hrel h
    exact ⟨z, run_v h1, h2⟩
  · rename_i b args ts
    obtain ⟨z, h1, h2⟩ := stepBuiltin_ok (ty := type) (consts := args.map fun | .const _ => true | _ => false) hrel h
    exact ⟨z, by simp only [execOp, resolve, Sem.run_bind, Sem.run_pure, Result.andThen_ok, invoke]; exact h1, h2⟩
  · rename_i fn first captured
    obtain ⟨z, h1, h2⟩ := stepMakeFunc_ok (P := P) hrel h
    exact ⟨z, run_v h1, h2⟩
  · cases h
end Go.Sx
