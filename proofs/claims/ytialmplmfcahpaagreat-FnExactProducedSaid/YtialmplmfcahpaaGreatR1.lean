/- A frame for symbolic execution: pure data, who owns which block, what a slot holds. Over any program. -/
import Derived.WalkKit
import Derived.WalkSpells
import Derived.WalkLawsBesides
import Derived.KernelRfl
set_option linter.unusedVariables false
set_option linter.unusedSimpArgs false
namespace Go.Sx
open Go.RowKit
inductive D where
  | v (x : Value)
  | sl (k : Nat) (es : List (List D))
  | ptr (ds : List D)
  | cl (g : FuncId) (caps : List D)
inductive Owner where
  | imm
  | box (id : Nat)
  | tok (t : Nat) (q : List (Nat × Nat))
abbrev Own := Nat → Owner
def qao (es : List (List D)) (i j : Nat) : Option D := (es[i]?).bind (·[j]?)
inductive Rep (w : World) (ω : Own) : (List (Nat × Nat) → Owner → Prop) → D → Value → Prop
  | v (R : List (Nat × Nat) → Owner → Prop) (x : Value) (h1 : x.oneCell' = true) : Rep w ω R (.v x) x
  | nil (R : List (Nat × Nat) → Owner → Prop) (k : Nat) (a : Option Addr) : Rep w ω R (.sl k []) (.slice a 0 0)
  | row (R : List (Nat × Nat) → Owner → Prop) (k : Nat) (es : List (List D)) (b off cap : Nat) (arr : Array Value) (ty : TypeId) (fr : Nat × Nat) (us : Nat → Nat → Value)
      (hb : w.heap[b]? = some (.cells arr ty fr)) (hR : R [] (ω b)) (hc : es.length ≤ cap) (hs : off + cap * k ≤ arr.size) (hk : ∀ e ∈ es, e.length = k)
      (hu : ∀ i j d, qao es i j = some d → arr[off + i * k + j]? = some (us i j))
      (hd : ∀ i j d, qao es i j = some d → Rep w ω (fun q => R ((i, j) :: q)) d (us i j)) :
      Rep w ω R (.sl k es) (.slice (some ⟨b, off, none⟩) es.length cap)
  | ptr (R : List (Nat × Nat) → Owner → Prop) (ds : List D) (b : Nat) (arr : Array Value) (ty : TypeId) (fr : Nat × Nat) (us : Nat → Value)
      (hb : w.heap[b]? = some (.cells arr ty fr)) (hR : R [] (ω b)) (hs : arr.size = ds.length)
      (hu : ∀ j d, ds[j]? = some d → arr[j]? = some (us j)) (hd : ∀ j d, ds[j]? = some d → Rep w ω (fun q => R ((0, j) :: q)) d (us j)) :
      Rep w ω R (.ptr ds) (.pointer (some ⟨b, 0, none⟩))
  | cl (R : List (Nat × Nat) → Owner → Prop) (g : FuncId) (caps : List D) (cs : Array Value) (us : Nat → Value) (hs : cs.size = caps.length)
      (hu : ∀ j d, caps[j]? = some d → cs[j]? = some (us j)) (hd : ∀ j d, caps[j]? = some d → Rep w ω (fun q => R ((0, j) :: q)) d (us j)) :
      Rep w ω R (.cl g caps) (.func (.func g) #[] cs)
theorem Rep.frame {w w' : World} {ω ω' : Own} {R : List (Nat × Nat) → Owner → Prop} {d : D} {v : Value} (h : Rep w ω R d v) :
    ∀ {R' : List (Nat × Nat) → Owner → Prop}, (∀ b q, b < w.heap.size → R q (ω b) → R' q (ω' b) ∧ w'.heap[b]? = w.heap[b]?) → Rep w' ω' R' d v := by
  induction h with
  | v R x h1 => intro R' _; exact .v R' x h1
  | nil R k a => intro R' _; exact .nil R' k a
  | row R k es b off cap arr ty fr us hb hR hc hs hk hu hd ih =>
    intro R' hf
    have hlt : b < w.heap.size := by
      rcases Nat.lt_or_ge b w.heap.size with h | h
      · exact h
      · simp [Array.getElem?_eq_none h] at hb
    obtain ⟨h1, h2⟩ := hf b [] hlt hR
    exact .row R' k es b off cap arr ty fr us (h2.trans hb) h1 hc hs hk hu (fun i j d hd' => ih i j d hd' (fun b q hl hq => hf b ((i, j) :: q) hl hq))
  | ptr R ds b arr ty fr us hb hR hs hu hd ih =>
    intro R' hf
    have hlt : b < w.heap.size := by
      rcases Nat.lt_or_ge b w.heap.size with h | h
      · exact h
      · simp [Array.getElem?_eq_none h] at hb
    obtain ⟨h1, h2⟩ := hf b [] hlt hR
    exact .ptr R' ds b arr ty fr us (h2.trans hb) h1 hs hu (fun j d hd' => ih j d hd' (fun b q hl hq => hf b ((0, j) :: q) hl hq))
  | cl R g caps cs us hs hu hd ih =>
    intro R' hf
    exact .cl R' g caps cs us hs hu (fun j d hd' => ih j d hd' (fun b q hl hq => hf b ((0, j) :: q) hl hq))
inductive Tag where
  | free
  | own (t : Nat)
  | ro (t : Nat)
def Tag.R : Tag → List (Nat × Nat) → Owner → Prop
  | .free, _, o => o = .imm
  | .own t, q, o => o = .tok t q
  | .ro t, _, o => o = .imm ∨ ∃ q, o = .tok t q
def Tag.hdr (τ : Nat → Nat × Value) : Tag → Nat × Value → Prop
  | .own t, y => τ t = y
  | _, _ => True
inductive NC where
  | und
  | v (x : Value)
  | sl (t : Tag) (k : Nat) (es : List (List D))
inductive SM where
  | here
  | away
  | at_ (x y : Nat)
def SM.rel (k n : Nat) : SM → Value → Value → Prop
  | .at_ x y, u, v => ∃ b off cap, u = .slice (some ⟨b, off, none⟩) n cap ∧ v = .pointer (some ⟨b, off + x * k + y, none⟩) ∧ x < n
  | _, u, v => v = u
def SM.home : SM → Bool
  | .away => false
  | _ => true
inductive Leaf where
  | und
  | v (x : Value)
  | sb (c : Bool)
  | sl (t : Tag) (k : Nat) (es : List (List D))
  | ptr (id off : Nat)
  | ep (t : Tag) (k : Nat) (es : List (List D)) (i j : Nat)
  | rp (ds : List D) (off : Nat)
  | fd (d : D)
  | clo (g : FuncId) (ids : List Nat)
  | sn (t i j k : Nat) (es : List (List D)) (m : SM)
  | np (t : Nat) (vs : List NC)
def ptrTo (b : Nat) : Value := .pointer (some ⟨b, 0, none⟩)
def NCSat (w : World) (ω : Own) (τ : Nat → Nat × Value) : NC → Value → Prop
  | .und, _ => True
  | .v x, y => y = x
  | .sl t k es, y => Rep w ω t.R (.sl k es) y ∧ t.hdr τ (k, y)
def qnq (w : World) (ω : Own) (τ : Nat → Nat × Value) (t i j : Nat) (u : Value) : Prop :=
  ∃ (kT b off len cap : Nat) (arr : Array Value) (ty : TypeId) (fr : Nat × Nat), τ t = (kT, .slice (some ⟨b, off, none⟩) len cap) ∧ ω b = .tok t [] ∧ w.heap[b]? = some (.cells arr ty fr) ∧ arr[off + i * kT + j]? = some u
def Sat (w : World) (ω : Own) (τ : Nat → Nat × Value) : Leaf → Value → Prop
  | .und, _ => True
  | .v x, y => y = x
  | .sb c, y => y = .bool c
  | .sl t k es, y => Rep w ω t.R (.sl k es) y ∧ t.hdr τ (k, y)
  | .ptr id off, y => ∃ b, ω b = .box id ∧ y = .pointer (some ⟨b, off, none⟩)
  | .ep t k es i j, y => ∃ b off cap, y = .pointer (some ⟨b, off + i * k + j, none⟩) ∧ i < es.length ∧
      Rep w ω t.R (.sl k es) (.slice (some ⟨b, off, none⟩) es.length cap) ∧ t.hdr τ (k, .slice (some ⟨b, off, none⟩) es.length cap)
  | .rp ds off, y => ∃ b, y = .pointer (some ⟨b, off, none⟩) ∧ Rep w ω Tag.free.R (.ptr ds) (ptrTo b)
  | .fd d, y => Rep w ω Tag.free.R d y
  | .clo g ids, y => ∃ bs : List Nat, y = .func (.func g) #[] (bs.map ptrTo).toArray ∧ bs.length = ids.length ∧ ∀ (i : Nat) (id : Nat), ids[i]? = some id → ∃ b, bs[i]? = some b ∧ ω b = .box id
  | .sn t i j k es m, y => ∃ u, m.rel k es.length u y ∧ Rep w ω (fun q o => o = .tok t ((i, j) :: q)) (.sl k es) u ∧ (m.home = true → qnq w ω τ t i j u)
  | .np t vs, y => ∃ (b : Nat) (ty : TypeId) (arr : Array Value), y = ptrTo b ∧ ω b = .tok t [] ∧ w.heap[b]? = some (.cells arr ty (0, 0)) ∧ arr.size = vs.length ∧ ∀ (j : Nat) (c : NC), vs[j]? = some c → ∃ u, arr[j]? = some u ∧ NCSat w ω τ c u
inductive AL where
  | one (l : Leaf)
  | agg (ls : List Leaf)
inductive PV where
  | al (a : AL)
  | tup (as : List AL)
abbrev PV.one (l : Leaf) : PV := .al (.one l)
abbrev PV.agg (ls : List Leaf) : PV := .al (.agg ls)
abbrev PV.und : PV := .al (.one .und)
def SatL (S : Leaf → Value → Prop) (ls : List Leaf) (vs : Array Value) : Prop :=
  vs.size = ls.length ∧ ∀ (i : Nat) (l : Leaf), ls[i]? = some l → ∃ u, vs[i]? = some u ∧ S l u
def SatA (S : Leaf → Value → Prop) : AL → Value → Prop
  | .one l, y => S l y
  | .agg ls, y => ∃ vs, y = .agg vs ∧ SatL S ls vs
def SatP (S : Leaf → Value → Prop) : PV → Value → Prop
  | .al a, y => SatA S a y
  | .tup as, y => ∃ vs : Array Value, y = .tuple vs ∧ vs.size = as.length ∧ ∀ (i : Nat) (a : AL), as[i]? = some a → ∃ u, vs[i]? = some u ∧ SatA S a u
structure St where
  env : List PV
  boxes : List (Nat × List Leaf)
def qaz (id : Nat) : List (Nat × List Leaf) → Option (List Leaf)
  | [] => none
  | (i, ls) :: r => if i = id then some ls else qaz id r
def AL.map (f : Leaf → Leaf) : AL → AL
  | .one l => .one (f l)
  | .agg ls => .agg (ls.map f)
def PV.map (f : Leaf → Leaf) : PV → PV
  | .al a => .al (a.map f)
  | .tup as => .tup (as.map (AL.map f))
def St.map (f : Leaf → Leaf) (s : St) : St := ⟨s.env.map (PV.map f), s.boxes.map fun x => (x.1, x.2.map f)⟩
theorem SatL.map {S S' : Leaf → Value → Prop} {f : Leaf → Leaf} (h : ∀ l v, S l v → S' (f l) v) {ls : List Leaf} {vs : Array Value} (hs : SatL S ls vs) : SatL S' (ls.map f) vs := by
  refine ⟨by simpa using hs.1, fun i l hl => ?_⟩
  rw [List.getElem?_map, Option.map_eq_some_iff] at hl
  obtain ⟨l0, h0, rfl⟩ := hl
  obtain ⟨u, h1, h2⟩ := hs.2 i l0 h0
  exact ⟨u, h1, h _ _ h2⟩
theorem SatA.map {S S' : Leaf → Value → Prop} {f : Leaf → Leaf} (h : ∀ l v, S l v → S' (f l) v) : ∀ {a : AL} {y : Value}, SatA S a y → SatA S' (a.map f) y
  | .one l, y, hs => h _ _ hs
  | .agg ls, y, ⟨vs, e, hs⟩ => ⟨vs, e, hs.map h⟩
theorem SatP.map {S S' : Leaf → Value → Prop} {f : Leaf → Leaf} (h : ∀ l v, S l v → S' (f l) v) : ∀ {p : PV} {y : Value}, SatP S p y → SatP S' (p.map f) y
  | .al a, y, hs => show SatA S' (a.map f) y from SatA.map h (show SatA S a y from hs)
  | .tup as, y, ⟨vs, e, hn, hs⟩ => ⟨vs, e, by simpa using hn, fun i a ha => by
      rw [List.getElem?_map, Option.map_eq_some_iff] at ha
      obtain ⟨a0, h0, rfl⟩ := ha
      obtain ⟨u, h1, h2⟩ := hs i a0 h0
      exact ⟨u, h1, SatA.map h h2⟩⟩
theorem qe0 (f : Leaf → Leaf) (id : Nat) : ∀ bs : List (Nat × List Leaf), qaz id (bs.map fun x => (x.1, x.2.map f)) = (qaz id bs).map (·.map f)
  | [] => rfl
  | (i, ls) :: r => by
    simp only [List.map_cons, qaz]
    split
    · rfl
    · exact qe0 f id r
structure Base where
  w : World
  G : Nat → Prop
  H : Nat → Nat × Value
def giv : Nat := 1000000000
def Base.mine (B : Base) (b : Nat) : Prop := B.w.heap.size ≤ b ∨ B.G b
structure Blw (n : Nat) (w w' : World) : Prop where
  below : Below n w w'
  drawn : w.drawn ≤ w'.drawn
theorem Blw.size {n : Nat} {w w' : World} (h : Blw n w w') : w.heap.size ≤ w'.heap.size := h.below.size
theorem Blw.block {n : Nat} {w w' : World} (h : Blw n w w') : ∀ k, k < n → w'.heap[k]? = w.heap[k]? := h.below.block
theorem Blw.refl (n : Nat) (w : World) : Blw n w w := ⟨Below.refl _ _, Nat.le_refl _⟩
theorem Blw.drew {n : Nat} {w w' : World} (h : Blw n w w') : Blw n w w'.drew := ⟨h.below.drew, Nat.le_succ_of_le h.drawn⟩
theorem Blw.alloc {n : Nat} {w w' : World} (h : Blw n w w') (hn : n ≤ w'.heap.size) (o : Obj) : Blw n w (w'.alloc o) := ⟨h.below.alloc hn o, h.drawn⟩
structure Bel (B : Base) (w : World) : Prop where
  os : w.os = B.w.os
  tape : w.tape = B.w.tape
  output : w.output = B.w.output
  size : B.w.heap.size ≤ w.heap.size
  block : ∀ k, k < B.w.heap.size → ¬ B.G k → w.heap[k]? = B.w.heap[k]?
  drawn : B.w.drawn ≤ w.drawn
theorem Bel.next {B : Base} {w w' : World} (h : Bel B w) (k : Blw w.heap.size w w') : Bel B w' :=
  ⟨k.below.os.trans h.os, k.below.tape.trans h.tape, k.below.output.trans h.output, Nat.le_trans h.size k.below.size, fun i hi hg => (k.below.block i (Nat.lt_of_lt_of_le hi h.size)).trans (h.block i hi hg), Nat.le_trans h.drawn k.drawn⟩
def Base.of (w : World) : Base := ⟨w, fun _ => False, fun _ => (0, undef)⟩
theorem Bel.refl (B : Base) : Bel B B.w := ⟨rfl, rfl, rfl, Nat.le_refl _, fun _ _ _ => rfl, Nat.le_refl _⟩
theorem Bel.below {w w' : World} (h : Bel (Base.of w) w') : Blw w.heap.size w w' := ⟨⟨h.os, h.tape, h.output, h.size, fun k hk => h.block k hk (fun h => h)⟩, h.drawn⟩
theorem Bel.setRow {B : Base} {w : World} (h : Bel B w) {b : Nat} (hb : B.mine b) (arr : Array Value) : Bel B (w.setRow b arr) :=
  ⟨h.os, h.tape, h.output, by simpa using h.size, fun k hk hg => by
    have : k ≠ b := by
      rintro rfl
      rcases hb with hb | hb
      · omega
      · exact hg hb
    rw [setRow_other w b k arr this]
    exact h.block k hk hg, h.drawn⟩
def Owned (w0 : Base) (w : World) (ω : Own) : Prop := ∀ b, ω b ≠ .imm → w0.mine b ∧ ∃ arr ty, w.heap[b]? = some (.cells arr ty (0, 0))
def BoxOk (w : World) (ω : Own) (τ : Nat → Nat × Value) (id : Nat) (ls : List Leaf) : Prop :=
  ∃ b arr ty, ω b = .box id ∧ (∀ b', ω b' = .box id → b' = b) ∧ w.heap[b]? = some (.cells arr ty (0, 0)) ∧ SatL (Sat w ω τ) ls arr
structure RelAt (w0 : Base) (st : St) (a : Act) (w : World) (ω : Own) (τ : Nat → Nat × Value) : Prop where
  defers : a.defers = []
  size : a.tmps.size = st.env.length
  below : Bel w0 w
  owned : Owned w0 w ω
  fixed : ∀ t, giv ≤ t → τ t = w0.H t
  pinned : ∀ id b, giv ≤ id → ω b = .box id → (w0.H id).1 = b
  env : ∀ (i : Nat) (p : PV), st.env[i]? = some p → ∃ v, a.tmps[i]? = some v ∧ SatP (Sat w ω τ) p v
  boxes : ∀ id ls, qaz id st.boxes = some ls → BoxOk w ω τ id ls
def Rel (w0 : Base) (st : St) (a : Act) (w : World) : Prop := ∃ ω τ, RelAt w0 st a w ω τ
theorem Owned.lt {w0 : Base} {w : World} {ω : Own} (h : Owned w0 w ω) {b : Nat} (hb : ω b ≠ .imm) : b < w.heap.size := by
  obtain ⟨_, arr, ty, e⟩ := h b hb
  rcases Nat.lt_or_ge b w.heap.size with h | h
  · exact h
  · simp [Array.getElem?_eq_none h] at e
theorem Owned.fresh {w0 : Base} {w : World} {ω : Own} (h : Owned w0 w ω) {b : Nat} (hb : w.heap.size ≤ b) : ω b = .imm := by
  cases e : ω b with
  | imm => rfl
  | box id => have := h.lt (b := b) (by simp [e]); omega
  | tok t q => have := h.lt (b := b) (by simp [e]); omega
end Go.Sx
namespace Go.Sx
open Go.RowKit
def NC.re (g : Tag → Option Tag) : NC → NC
  | .sl t k es => match g t with | some t' => .sl t' k es | none => .und
  | c => c
def Leaf.re (g : Tag → Option Tag) (p : Nat → Bool) : Leaf → Leaf
  | .sl t k es => match g t with | some t' => .sl t' k es | none => .und
  | .ep t k es i j => match g t with | some t' => .ep t' k es i j | none => .und
  | .ptr id off => if p id then .ptr id off else .und
  | .clo f ids => if ids.all p then .clo f ids else .und
  | .sn t i j k es m => match g (.own t) with | some (.own t') => if t' = t then .sn t i j k es m else .und | _ => .und
  | .np t vs => match g (.own t) with | some (.own t') => if t' = t then .np t (vs.map (NC.re g)) else .und | _ => .und
  | l => l
structure Evolve (w : World) (ω : Own) (τ : Nat → Nat × Value) (w' : World) (ω' : Own) (τ' : Nat → Nat × Value) (g : Tag → Option Tag) (p : Nat → Bool) : Prop where
  rep : ∀ t t' b q, g t = some t' → b < w.heap.size → t.R q (ω b) → t'.R q (ω' b) ∧ w'.heap[b]? = w.heap[b]?
  hdr : ∀ t t' y, g t = some t' → t.hdr τ y → t'.hdr τ' y
  box : ∀ id b, p id = true → ω b = .box id → ω' b = .box id
  free : g .free = some .free
theorem qha {w w' : World} {ω ω' : Own} {τ τ' : Nat → Nat × Value} {g : Tag → Option Tag} (h : ∀ c u, NCSat w ω τ c u → NCSat w' ω' τ' (NC.re g c) u) {arr : Array Value} {vs : List NC}
    (hn : arr.size = vs.length) (hv : ∀ (j : Nat) (c : NC), vs[j]? = some c → ∃ u, arr[j]? = some u ∧ NCSat w ω τ c u) :
    arr.size = (vs.map (NC.re g)).length ∧ ∀ (j : Nat) (c : NC), (vs.map (NC.re g))[j]? = some c → ∃ u, arr[j]? = some u ∧ NCSat w' ω' τ' c u := by
  refine ⟨by simpa using hn, fun j c hc => ?_⟩
  rw [List.getElem?_map, Option.map_eq_some_iff] at hc
  obtain ⟨c0, h0, rfl⟩ := hc
  obtain ⟨u, h1, h2⟩ := hv j c0 h0
  exact ⟨u, h1, h c0 u h2⟩
theorem Evolve.nc {w w' : World} {ω ω' : Own} {τ τ' : Nat → Nat × Value} {g : Tag → Option Tag} {p : Nat → Bool} (h : Evolve w ω τ w' ω' τ' g p) (c : NC) (u : Value) (hs : NCSat w ω τ c u) : NCSat w' ω' τ' (NC.re g c) u := by
  cases c with
  | und => exact trivial
  | v x => exact hs
  | sl t k es =>
    simp only [NC.re]
    cases hg : g t with
    | none => exact trivial
    | some t' => exact ⟨hs.1.frame fun b q hb hq => h.rep t t' b q hg hb hq, h.hdr t t' _ hg hs.2⟩
theorem Evolve.sat {w w' : World} {ω ω' : Own} {τ τ' : Nat → Nat × Value} {g : Tag → Option Tag} {p : Nat → Bool} (h : Evolve w ω τ w' ω' τ' g p) :
    ∀ (l : Leaf) (v : Value), Sat w ω τ l v → Sat w' ω' τ' (l.re g p) v := by
  intro l v hs
  cases l with
  | und => exact trivial
  | v x => exact hs
  | sb c => exact hs
  | sl t k es =>
    simp only [Leaf.re]
    cases hg : g t with
    | none => exact trivial
    | some t' => exact ⟨hs.1.frame fun b q hb hq => h.rep t t' b q hg hb hq, h.hdr t t' _ hg hs.2⟩
  | ptr id off =>
    simp only [Leaf.re]
    split
    · obtain ⟨b, hb, e⟩ := hs
      exact ⟨b, h.box id b ‹_› hb, e⟩
    · exact trivial
  | clo f ids =>
    simp only [Leaf.re]
    split
    · rename_i hp
      obtain ⟨bs, e, hn, hi⟩ := hs
      refine ⟨bs, e, hn, fun i id hid => ?_⟩
      obtain ⟨b, h1, h2⟩ := hi i id hid
      exact ⟨b, h1, h.box id b (List.all_eq_true.1 hp id (List.mem_of_getElem? hid)) h2⟩
    · exact trivial
  | rp ds off =>
    obtain ⟨b, e, hr⟩ := hs
    exact ⟨b, e, hr.frame fun b q hb hq => h.rep .free .free b q h.free hb hq⟩
  | fd d => exact Rep.frame hs fun b q hb hq => h.rep .free .free b q h.free hb hq
  | sn t i j k es m =>
    simp only [Leaf.re]
    split
    · rename_i t' hg
      split
      · rename_i ht
        subst ht
        obtain ⟨u, hu, h1, hm⟩ := hs
        refine ⟨u, hu, h1.frame fun c q hc hq => h.rep _ _ c _ hg hc hq, fun hh => ?_⟩
        obtain ⟨kT, b, off, len, cap, arr, ty, fr, h2, h5, h3, h4⟩ := hm hh
        have hlt : b < w.heap.size := (Array.getElem?_eq_some_iff.1 h3).1
        have hk := h.rep _ _ b [] hg hlt h5
        exact ⟨kT, b, off, len, cap, arr, ty, fr, h.hdr _ _ _ hg h2, hk.1, hk.2.trans h3, h4⟩
      · exact trivial
    · exact trivial
  | np t vs =>
    simp only [Leaf.re]
    split
    · rename_i t' hg
      split
      · rename_i ht
        subst ht
        obtain ⟨b, ty, arr, e, h5, h3, hn, hv⟩ := hs
        have hlt : b < w.heap.size := (Array.getElem?_eq_some_iff.1 h3).1
        have hk := h.rep _ _ b [] hg hlt h5
        exact ⟨b, ty, arr, e, hk.1, hk.2.trans h3, qha (h.nc) hn hv⟩
      · exact trivial
    · exact trivial
  | ep t k es i j =>
    simp only [Leaf.re]
    cases hg : g t with
    | none => exact trivial
    | some t' =>
      obtain ⟨b, off, cap, e, hi, hr, hh⟩ := hs
      exact ⟨b, off, cap, e, hi, hr.frame fun b q hb hq => h.rep t t' b q hg hb hq, h.hdr t t' _ hg hh⟩
theorem getElem?_put {a : Act} {d : Nat} {v : Value} {i : Nat} : (a.put (some d) v).tmps[i]? = if d = i ∧ i < a.tmps.size then some v else a.tmps[i]? := by
  simp only [Act.put, Array.getElem?_setIfInBounds]
  by_cases h : d = i
  · subst h
    by_cases h2 : d < a.tmps.size
    · simp [h2]
    · simp [h2]
  · simp [h]
theorem RelAt.put {w0 : Base} {st : St} {a : Act} {w : World} {ω : Own} {τ : Nat → Nat × Value} (h : RelAt w0 st a w ω τ) {d : Nat} {p : PV} {v : Value} (hs : SatP (Sat w ω τ) p v) :
    RelAt w0 ⟨st.env.set d p, st.boxes⟩ (a.put (some d) v) w ω τ where
  defers := h.defers
  size := by simp [Act.put, h.size]
  below := h.below
  owned := h.owned
  fixed := h.fixed
  pinned := h.pinned
  boxes := h.boxes
  env := by
    intro i q hq
    rw [List.getElem?_set] at hq
    rw [getElem?_put]
    by_cases hd : d = i
    · subst hd
      simp only [if_true] at hq
      split at hq
      · rename_i hlt
        have e := Option.some.inj hq
        subst e
        exact ⟨v, by rw [if_pos ⟨rfl, by rw [h.size]; exact hlt⟩], hs⟩
      · cases hq
    · rw [if_neg hd] at hq
      rw [if_neg (by simp [hd])]
      exact h.env i q hq
theorem RelAt.evolve {w0 : Base} {st : St} {a : Act} {w w' : World} {ω ω' : Own} {τ τ' : Nat → Nat × Value} {g : Tag → Option Tag} {p : Nat → Bool}
    (h : RelAt w0 st a w ω τ) (e : Evolve w ω τ w' ω' τ' g p) (hbelow : Bel w0 w') (howned : Owned w0 w' ω') {bs : List (Nat × List Leaf)}
    (hbox : ∀ id ls, qaz id bs = some ls → BoxOk w' ω' τ' id ls) (hpin : ∀ id b, giv ≤ id → ω' b = .box id → ω b = .box id) (hfix : ∀ t, giv ≤ t → τ' t = τ t := by intros; rfl) : RelAt w0 ⟨st.env.map (PV.map (Leaf.re g p)), bs⟩ a w' ω' τ' where
  defers := h.defers
  size := by simp [h.size]
  below := hbelow
  owned := howned
  fixed := fun t ht => (hfix t ht).trans (h.fixed t ht)
  pinned := fun id b hi hb => h.pinned id b hi (hpin id b hi hb)
  boxes := hbox
  env := by
    intro i q hq
    rw [List.getElem?_map, Option.map_eq_some_iff] at hq
    obtain ⟨q0, h0, rfl⟩ := hq
    obtain ⟨v, h1, h2⟩ := h.env i q0 h0
    exact ⟨v, h1, SatP.map e.sat h2⟩
theorem qbH (w : World) (o : Obj) : (w.alloc o).heap[w.heap.size]? = some o := by
  show (w.heap.push o)[_]? = _
  simp
theorem qdi (w : World) (o : Obj) {i : Nat} (h : i < w.heap.size) : (w.alloc o).heap[i]? = w.heap[i]? := Below.heap_alloc w o i h
def qdj (id : Nat) : List (Nat × List Leaf) → List (Nat × List Leaf)
  | [] => []
  | (i, ls) :: r => if i = id then qdj id r else (i, ls) :: qdj id r
theorem qfy {id id' : Nat} (h : id' ≠ id) : ∀ bs, qaz id' (qdj id bs) = qaz id' bs
  | [] => rfl
  | (i, ls) :: r => by
    simp only [qdj, qaz]
    by_cases h1 : i = id
    · rw [if_pos h1, if_neg (by omega)]; exact qfy h r
    · rw [if_neg h1]
      simp only [qaz]
      split
      · rfl
      · exact qfy h r
def keepT : Tag → Option Tag := some
def qbI (id : Nat) : Nat → Bool := fun i => decide (i ≠ id)
def St.newBox (st : St) (id : Nat) (ls : List Leaf) : St :=
  let f := Leaf.re keepT (qbI id)
  ⟨st.env.map (PV.map f), (id, ls.map f) :: (qdj id st.boxes).map fun x => (x.1, x.2.map f)⟩
theorem RelAt.newBox {w0 : Base} {st : St} {a : Act} {w : World} {ω : Own} {τ : Nat → Nat × Value} (h : RelAt w0 st a w ω τ) (id : Nat) (hid : id < giv) {ls : List Leaf} {arr : Array Value} (ty : TypeId)
    (hs : SatL (Sat w ω τ) ls arr) :
    ∃ ω', RelAt w0 (st.newBox id ls) a (w.alloc (.cells arr ty)) ω' τ ∧ ω' w.heap.size = .box id := by
  let ω' : Own := fun b => if b = w.heap.size then .box id else match ω b with | .box i => if i = id then .imm else .box i | o => o
  have hnew : ω' w.heap.size = .box id := by simp [ω']
  have hold : ∀ b, b < w.heap.size → ω' b = (match ω b with | .box i => if i = id then .imm else .box i | o => o) := by
    intro b hb
    simp only [ω']
    rw [if_neg (by omega)]
  have hother : ∀ b, b ≠ w.heap.size → ω' b = (match ω b with | .box i => if i = id then .imm else .box i | o => o) := by
    intro b hb
    simp only [ω']
    rw [if_neg hb]
  have ev : Evolve w ω τ (w.alloc (.cells arr ty)) ω' τ keepT (qbI id) := by
    refine ⟨?_, ?_, ?_, rfl⟩
    · intro t t' b q hg hb hq
      simp only [keepT, Option.some.injEq] at hg
      subst hg
      refine ⟨?_, qdi _ _ hb⟩
      rw [hold b hb]
      cases t with
      | free => simp only [Tag.R] at hq ⊢; rw [hq]
      | own s => simp only [Tag.R] at hq ⊢; rw [hq]
      | ro s =>
        simp only [Tag.R] at hq ⊢
        rcases hq with hq | ⟨q', hq⟩
        · rw [hq]; exact .inl rfl
        · rw [hq]; exact .inr ⟨q', rfl⟩
    · intro t t' y hg hy
      simp only [keepT, Option.some.injEq] at hg
      subst hg; exact hy
    · intro i b hp hb
      have hlt := h.owned.lt (b := b) (by simp [hb])
      rw [hold b hlt, hb]
      simp only [qbI, decide_eq_true_eq] at hp
      simp [hp]
  have hbelow : Bel w0 (w.alloc (.cells arr ty)) := h.below.next ((Blw.refl _ _).alloc (Nat.le_refl _) _)
  have howned : Owned w0 (w.alloc (.cells arr ty)) ω' := by
    intro b hb
    by_cases hn : b = w.heap.size
    · subst hn; exact ⟨.inl h.below.size, arr, ty, qbH _ _⟩
    · rw [hother b hn] at hb
      have h2 : ω b ≠ .imm := by intro e; rw [e] at hb; exact hb rfl
      obtain ⟨h3, arr', ty', e⟩ := h.owned b h2
      exact ⟨h3, arr', ty', (qdi _ _ (h.owned.lt h2)).trans e⟩
  refine ⟨ω', ?_, hnew⟩
  refine h.evolve ev hbelow howned ?_ (fun i b hi hb => ?_)
  case refine_2 =>
    by_cases hn : b = w.heap.size
    · subst hn
      rw [hnew] at hb
      simp only [Owner.box.injEq] at hb
      omega
    · rw [hother b hn] at hb
      cases e : ω b with
      | imm => simp [e] at hb
      | tok t q => simp [e] at hb
      | box j =>
        simp only [e] at hb
        split at hb
        · cases hb
        · exact hb
  intro i ls' hl
  simp only [qaz] at hl
  split at hl
  · rename_i hi
    subst hi
    have e := Option.some.inj hl
    subst e
    refine ⟨w.heap.size, arr, ty, hnew, ?_, qbH _ _, hs.map ev.sat⟩
    intro b' hb'
    by_cases hn : b' = w.heap.size
    · exact hn
    · rw [hother b' hn] at hb'
      cases e : ω b' with
      | imm => simp [e] at hb'
      | tok t q => simp [e] at hb'
      | box j =>
        simp only [e] at hb'
        split at hb'
        · cases hb'
        · rename_i hne; simp only [Owner.box.injEq] at hb'; exact absurd hb' hne
  · rename_i hi
    rw [qe0, Option.map_eq_some_iff] at hl
    obtain ⟨ls0, h0, rfl⟩ := hl
    have hne : i ≠ id := fun e => hi e.symm
    rw [qfy hne] at h0
    obtain ⟨b, arr', ty', hb, hu, hh, hsat⟩ := h.boxes i ls0 h0
    have hlt := h.owned.lt (b := b) (by simp [hb])
    refine ⟨b, arr', ty', ev.box i b (by simp [qbI, hne]) hb, ?_, (qdi _ _ hlt).trans hh, hsat.map ev.sat⟩
    intro b' hb'
    by_cases hn : b' = w.heap.size
    · subst hn; rw [hnew] at hb'; simp only [Owner.box.injEq] at hb'; exact absurd hb'.symm hne
    · rw [hother b' hn] at hb'
      refine hu b' ?_
      cases e : ω b' with
      | imm => simp [e] at hb'
      | tok t q => simp [e] at hb'
      | box j =>
        simp only [e] at hb'
        split at hb'
        · cases hb'
        · exact hb'
end Go.Sx
namespace Go.Sx
open Go.RowKit
inductive AD where
  | one (d : D)
  | agg (ds : List D)
inductive RR where
  | vals (rs : List AD)
  | new (ds : List D)
inductive Ex where
  | normal
  | exit (id : Nat)
  | ret
inductive Ans where
  | own
  | sub
  | resG (pat : List (List (Option (Option (List (List D)))))) (src : Nat) (ds : List D) (rs : List AD)
  | res (rs : List AD)
  | resR (pat : List (Option (List D))) (r : RR)
  | loop (nils : List (Nat × Nat × Nat)) (keep boxes : List Nat) (e : Ex) (st : St)
  | br (b : Bool)
  | el (ds : List D)
  | wr
  | eq (c : Bool)
  | num (n : Int)
  | pv (p : PV)
def Obs : List Prop → Prop
  | [] => True
  | p :: r => p ∧ Obs r
theorem Obs.append : ∀ {a b : List Prop}, Obs (a ++ b) → Obs a ∧ Obs b
  | [], _, h => ⟨trivial, h⟩
  | _ :: _, _, h => ⟨⟨h.1, (Obs.append h.2).1⟩, (Obs.append h.2).2⟩
abbrev Got := Option (PV × List Ans × List Prop)
def cval : Value → PV
  | .agg cs => .agg (cs.toList.map .v)
  | v => .one (.v v)
def St.ev (st : St) : Operand → PV
  | .tmp t => st.env.getD t .und
  | .const v => cval v
  | .func f => .one (.fd (.cl f []))
  | _ => .und
theorem qnr (w : World) (ω : Own) (τ : Nat → Nat × Value) (v : Value) : SatP (Sat w ω τ) (cval v) v := by
  unfold cval
  split
  · rename_i cs
    refine ⟨cs, rfl, by simp, fun i l hl => ?_⟩
    rw [List.getElem?_map, Option.map_eq_some_iff] at hl
    obtain ⟨u, hu, rfl⟩ := hl
    exact ⟨u, by simpa using hu, rfl⟩
  · exact rfl
theorem RelAt.ev {w0 : Base} {st : St} {a : Act} {w : World} {ω : Own} {τ : Nat → Nat × Value} (h : RelAt w0 st a w ω τ) (x : Operand) : SatP (Sat w ω τ) (st.ev x) (a.eval x) := by
  cases x with
  | tmp t =>
    simp only [St.ev, Act.eval]
    cases e : st.env[t]? with
    | none =>
      rw [List.getD_eq_getElem?_getD, e]
      exact trivial
    | some p =>
      obtain ⟨v, hv, hs⟩ := h.env t p e
      rw [List.getD_eq_getElem?_getD, e]
      simpa [Array.getD_eq_getD_getElem?, hv] using hs
  | const v => exact qnr w ω τ v
  | global g => exact trivial
  | func f => exact Rep.cl _ f [] #[] (fun _ => undef) rfl (fun j d hd => by simp at hd) (fun j d hd => by simp at hd)
def Leaf.val : Leaf → Option Value
  | .v x => some x
  | .sb c => some (.bool c)
  | _ => none
theorem Leaf.val_sat {w : World} {ω : Own} {τ : Nat → Nat × Value} {l : Leaf} {x y : Value} (h : l.val = some x) (hs : Sat w ω τ l y) : y = x := by
  cases l <;> simp [Leaf.val] at h
  · subst h; exact hs
  · subst h; exact hs
def PV.leaf : PV → Option Leaf
  | .al (.one l) => some l
  | _ => none
theorem PV.leaf_sat {S : Leaf → Value → Prop} {p : PV} {l : Leaf} {y : Value} (h : p.leaf = some l) (hs : SatP S p y) : S l y := by
  cases p with
  | tup as => cases h
  | al a =>
    cases a with
    | agg ls => cases h
    | one l' => simp only [PV.leaf, Option.some.injEq] at h; subst h; exact hs
def PV.int (p : PV) : Option (IntKind × Int) :=
  match p.leaf with
  | some (.v (.int k n)) => some (k, n)
  | _ => none
theorem PV.int_sat {w : World} {ω : Own} {τ : Nat → Nat × Value} {p : PV} {k : IntKind} {n : Int} {y : Value} (h : p.int = some (k, n)) (hs : SatP (Sat w ω τ) p y) : y = .int k n := by
  unfold PV.int at h
  split at h
  · rename_i k' n' e
    simp only [Option.some.injEq, Prod.mk.injEq] at h
    obtain ⟨rfl, rfl⟩ := h
    exact PV.leaf_sat e hs
  · cases h
def PV.vals : PV → Option (List Value)
  | .al (.agg ls) => ls.mapM Leaf.val
  | _ => none
theorem qjX {w : World} {ω : Own} {τ : Nat → Nat × Value} : ∀ {ls : List Leaf} {xs : List Value}, ls.mapM Leaf.val = some xs → ∀ {vs : List Value}, vs.length = ls.length → (∀ (i : Nat) (l : Leaf), ls[i]? = some l → ∃ u, vs[i]? = some u ∧ Sat w ω τ l u) → vs = xs
  | [], xs, h, vs, hn, _ => by
    simp at h; subst h
    exact List.eq_nil_of_length_eq_zero hn
  | l :: ls, xs, h, vs, hn, hs => by
    rw [List.mapM_cons] at h
    cases e : l.val with
    | none => simp [e] at h
    | some x =>
      cases e2 : ls.mapM Leaf.val with
      | none => simp [e, e2] at h
      | some ys =>
        simp [e, e2] at h
        subst h
        cases vs with
        | nil => simp at hn
        | cons v vs =>
          obtain ⟨u, hu, hsat⟩ := hs 0 l rfl
          simp at hu
          subst hu
          rw [Leaf.val_sat e hsat]
          congr 1
          exact qjX e2 (by simpa using hn) (fun i l' hl => by have := hs (i + 1) l' (by simpa using hl); simpa using this)
theorem PV.vals_sat {w : World} {ω : Own} {τ : Nat → Nat × Value} {p : PV} {xs : List Value} {y : Value} (h : p.vals = some xs) (hs : SatP (Sat w ω τ) p y) : y = .agg xs.toArray := by
  cases p with
  | tup as => cases h
  | al a =>
    cases a with
    | one l => cases h
    | agg ls =>
      obtain ⟨vs, rfl, hn, hv⟩ := hs
      have := qjX (w := w) (ω := ω) (τ := τ) h (vs := vs.toList) (by simpa using hn) (fun i l hl => by obtain ⟨u, h1, h2⟩ := hv i l hl; exact ⟨u, by simpa using h1, h2⟩)
      rw [← this]
def inInt (k : IntKind) (e : Int) : Prop :=
  match k with
  | .i64 => -9223372036854775808 ≤ e ∧ e ≤ 9223372036854775807
  | k => k.wrap e = e
theorem inInt.wrap {k : IntKind} {e : Int} (h : inInt k e) : k.wrap e = e := by
  cases k <;> first | exact h | (simp only [inInt] at h; rw [IntKind.wrap_i64]; omega)
def arith (k : IntKind) (e : Int) (ans : List Ans) : Got :=
  match ans with
  | .wr :: r => some (.one (.v (.int k (k.wrap e))), r, [])
  | _ => some (.one (.v (.int k e)), ans, [inInt k e])
theorem qeo {w : World} {ω : Own} {τ : Nat → Nat × Value} {k : IntKind} {e : Int} {ans ans' : List Ans} {p : PV} {obs : List Prop} (h : arith k e ans = some (p, ans', obs)) (ho : Obs obs) : SatP (Sat w ω τ) p (.int k (k.wrap e)) := by
  unfold arith at h
  split at h
  · simp only [Option.some.injEq, Prod.mk.injEq] at h
    obtain ⟨rfl, _, _⟩ := h
    exact rfl
  · simp only [Option.some.injEq, Prod.mk.injEq] at h
    obtain ⟨rfl, _, rfl⟩ := h
    rw [ho.1.wrap]
    exact rfl
def qhb (P : Program) (op : BinOp) (t : TypeId) (x y : Operand) (u v c : Value) : Prop :=
  ∀ w : World, ((do eqGuard op t x y u v; binOp op t u v : Sem Value)).run P w = .ok c w
def qhc (op : BinOp) (k : IntKind) (x y : Int) (ans : List Ans) : Got :=
  match op with
  | .add => arith k (x + y) ans
  | .sub => arith k (x - y) ans
  | .mul => arith k (x * y) ans
  | .quo => (arith k (x.tdiv y) ans).map fun r => (r.1, r.2.1, (y ≠ 0) :: r.2.2)
  | .rem => some (.one (.v (.int k (x.tmod y))), ans, [y ≠ 0])
  | .eql => some (.one (.sb (x == y)), ans, [])
  | .neq => some (.one (.sb (x != y)), ans, [])
  | .lss => some (.one (.sb (decide (x < y))), ans, [])
  | .leq => some (.one (.sb (decide (x ≤ y))), ans, [])
  | .gtr => some (.one (.sb (decide (x > y))), ans, [])
  | .geq => some (.one (.sb (decide (x ≥ y))), ans, [])
  | _ => none
theorem qns {P : Program} {w : World} {ω : Own} {τ : Nat → Nat × Value} {op : BinOp} {k : IntKind} {x y : Int} {ans ans' : List Ans} {p : PV} {obs : List Prop} (t : TypeId) (ox oy : Operand)
    (h : qhc op k x y ans = some (p, ans', obs)) (ho : Obs obs) :
    ∃ v, ((do eqGuard op t ox oy (.int k x) (.int k y); binOp op t (.int k x) (.int k y) : Sem Value)).run P w = .ok v w ∧ SatP (Sat w ω τ) p v := by
  rw [eqGuard_at_int]
  simp only [Sem.run_bind, Sem.run_pure, Result.andThen_ok]
  cases op <;> simp only [qhc, Option.some.injEq, Prod.mk.injEq, reduceCtorEq] at h
  case add => exact ⟨_, by rw [binOp_add]; rfl, qeo h ho⟩
  case sub => exact ⟨_, by rw [binOp_sub]; rfl, qeo h ho⟩
  case mul => exact ⟨_, by rw [binOp_mul]; rfl, qeo h ho⟩
  case quo =>
    rw [Option.map_eq_some_iff] at h
    obtain ⟨⟨p', a', o'⟩, h1, h2⟩ := h
    simp only [Prod.mk.injEq] at h2
    obtain ⟨rfl, rfl, rfl⟩ := h2
    refine ⟨_, ?_, qeo h1 ho.2⟩
    rw [binOp_quo]
    simp [Op.intDiv, ho.1]
  case rem =>
    obtain ⟨rfl, _, rfl⟩ := h
    refine ⟨_, ?_, rfl⟩
    rw [binOp_rem]
    simp [Op.intDiv, ho.1]
  case eql => obtain ⟨rfl, _, rfl⟩ := h; exact ⟨_, by rw [binOp_eql]; rfl, rfl⟩
  case neq => obtain ⟨rfl, _, rfl⟩ := h; exact ⟨_, by rw [binOp_neq]; rfl, rfl⟩
  case lss => obtain ⟨rfl, _, rfl⟩ := h; exact ⟨_, by rw [binOp_lss]; rfl, rfl⟩
  case leq => obtain ⟨rfl, _, rfl⟩ := h; exact ⟨_, by rw [binOp_leq]; rfl, rfl⟩
  case gtr => obtain ⟨rfl, _, rfl⟩ := h; exact ⟨_, by rw [binOp_gtr]; rfl, rfl⟩
  case geq => obtain ⟨rfl, _, rfl⟩ := h; exact ⟨_, by rw [binOp_geq]; rfl, rfl⟩
def PV.value (p : PV) : Option Value :=
  match p with
  | .al (.one l) => l.val
  | p => p.vals.map fun xs => .agg xs.toArray
theorem PV.value_sat {w : World} {ω : Own} {τ : Nat → Nat × Value} {p : PV} {x y : Value} (h : p.value = some x) (hs : SatP (Sat w ω τ) p y) : y = x := by
  unfold PV.value at h
  split at h
  · exact Leaf.val_sat h hs
  · rw [Option.map_eq_some_iff] at h
    obtain ⟨xs, h1, rfl⟩ := h
    exact PV.vals_sat h1 hs
def qdk (P : Program) (t : TypeId) : Option Bool :=
  match P.underlying t with
  | some (.struct _) | some (.array _ _) => some true
  | some _ => some false
  | none => none
theorem qep {P : Program} {t : TypeId} {b : Bool} (h : qdk P t = some b) (w : World) : (isAgg t).run P w = .ok b w := by
  unfold qdk at h
  unfold isAgg
  split at h
  · rename_i hu; simp only [Option.some.injEq] at h; subst h; simp [run_underlying hu]
  · rename_i hu; simp only [Option.some.injEq] at h; subst h; simp [run_underlying hu]
  · rename_i d h1 h2 hu
    simp only [Option.some.injEq] at h; subst h
    rw [Sem.run_bind, run_underlying hu]
    cases d <;> first | rfl | (exact absurd rfl (h1 _)) | (exact absurd rfl (h2 _ _))
  · cases h
def partP (P : Program) (t : TypeId) (cs : Array Value) (off : Nat) : Option Value :=
  match qdk P t, P.info? t with
  | some true, some i => some (.agg (cs.extract off (off + i.size)))
  | some false, _ => cs[off]?
  | _, _ => none
theorem qjY {P : Program} {t : TypeId} {cs : Array Value} {off : Nat} {v : Value} (h : partP P t cs off = some v) (w : World) : (part t cs off).run P w = .ok v w := by
  unfold partP at h
  split at h
  · rename_i i e1 e2
    simp only [Option.some.injEq] at h
    subst h
    simp [part, qep e1, sizeOf, typeInfo, e2]
  · rename_i e1
    simp [part, qep e1, h]
  · cases h
def eqFs (P : Program) (f : TypeId → Value → Value → Option Bool) (xs ys : Array Value) : List Field → Option Bool
  | [] => some true
  | fd :: r =>
    if fd.name = "_" then none else
    match partP P fd.type xs fd.offset, partP P fd.type ys fd.offset with
    | some a, some b =>
      match f fd.type a b with
      | some c =>
        match r with
        | [] => some c
        | r => (eqFs P f xs ys r).map fun c' => c && c'
      | none => none
    | _, _ => none
def eqP (P : Program) : Nat → TypeId → Value → Value → Option Bool
  | 0, _, _, _ => none
  | m + 1, t, x, y =>
    match P.underlying t, x, y with
    | some .bool, .bool a, .bool b => some (a == b)
    | some (.int _), .int k a, .int k' b => if k = k' then some (a == b) else none
    | some .string, .string a, .string b => some (a.toList == b.toList)
    | some (.struct fs), .agg xs, .agg ys => if P.stoodInHeld t then none else eqFs P (eqP P m) xs ys fs.toList
    | _, _, _ => none
theorem qjZ {P : Program} {d : Nat} {f : TypeId → Value → Value → Option Bool} (hf : ∀ t x y c, f t x y = some c → ∀ w, (Op.equalIn d t x y).run P w = .ok c w) {xs ys : Array Value} :
    ∀ {fs : List Field} {c : Bool}, eqFs P f xs ys fs = some c → ∀ w, (Op.eqFields d xs ys fs).run P w = .ok c w
  | [], c, h, w => by simp only [eqFs, Option.some.injEq] at h; subst h; simp [Op.eqFields]
  | fd :: r, c, h, w => by
    simp only [eqFs] at h
    split at h
    · cases h
    · rename_i hn
      split at h
      · rename_i a b e1 e2
        split at h
        · rename_i c1 e3
          simp only [Op.eqFields, if_pos (show fd.name ≠ "_" from hn), Sem.run_bind, qjY e1, qjY e2, Result.andThen_ok, hf _ _ _ _ e3, Sem.run_ite]
          split at h
          · simp only [Option.some.injEq] at h
            subst h
            cases c1 <;> simp [Op.eqFields]
          · rw [Option.map_eq_some_iff] at h
            obtain ⟨c2, h1, rfl⟩ := h
            have := qjZ hf h1 w
            cases c1 <;> simp [this]
        · cases h
      · cases h
theorem qj0 {P : Program} : ∀ {m : Nat} {t : TypeId} {x y : Value} {c : Bool}, eqP P m t x y = some c → ∀ (d : Nat) (w : World), (Op.equalIn (d + m) t x y).run P w = .ok c w
  | 0, _, _, _, _, h, _, _ => by cases h
  | m + 1, t, x, y, c, h, d, w => by
    rw [show d + (m + 1) = (d + m) + 1 from rfl]
    simp only [eqP] at h
    split at h
    · rename_i a b e
      simp only [Option.some.injEq] at h
      subst h
      exact run_equalIn_bool w _ t a b e
    · rename_i k' k a k2 b e
      split at h
      · rename_i hk
        subst hk
        simp only [Option.some.injEq] at h
        subst h
        exact run_equalIn_int w _ t k k' a b e
      · cases h
    · rename_i a b e
      simp only [Option.some.injEq] at h
      subst h
      exact run_equalIn_string w _ t a b e
    · rename_i fs xs ys e
      split at h
      · cases h
      · rename_i hs
        have hfs : P.fieldsOf t = fs := by simp [Program.fieldsOf, e]
        rw [run_equalIn_struct w _ t xs ys (by rw [hfs]; exact e) (by simpa using hs), hfs]
        exact qjZ (fun t x y c h w => qj0 h d w) h w
    · cases h
def eqBin (P : Program) (op : BinOp) (t : TypeId) (u v : Value) : Option Bool :=
  match op, u, v with
  | .eql, .agg xs, .agg ys => if P.eqGuardType P.depth t then none else eqP P 20 t (.agg xs) (.agg ys)
  | .neq, .agg xs, .agg ys => if P.eqGuardType P.depth t then none else (eqP P 20 t (.agg xs) (.agg ys)).map fun c => !c
  | .eql, .bool a, .bool b => match P.underlying t with | some .bool => some (a == b) | _ => none
  | .neq, .bool a, .bool b => match P.underlying t with | some .bool => some (!(a == b)) | _ => none
  | .eql, .string a, .string b => match P.underlying t with | some .string => some (a.toList == b.toList) | _ => none
  | .neq, .string a, .string b => match P.underlying t with | some .string => some (!(a.toList == b.toList)) | _ => none
  | _, _, _ => none
theorem qnt {P : Program} {op : BinOp} {t : TypeId} {x y : Operand} {u v : Value} {c : Bool} (h : eqBin P op t u v = some c) : qhb P op t x y u v (.bool c) := by
  intro w
  have h20 : ∀ {x y : Value} {c : Bool}, eqP P 20 t x y = some c → (Op.equalIn 10000 t x y).run P w = .ok c w := fun h => qj0 h 9980 w
  unfold eqBin at h
  split at h
  · rename_i xs ys
    split at h
    · cases h
    · rename_i hg
      simp [run_eqGuard_agg w .eql t x y xs ys (by simpa using hg), run_eql_struct, h20 h]
  · rename_i xs ys
    split at h
    · cases h
    · rename_i hg
      rw [Option.map_eq_some_iff] at h
      obtain ⟨c', h1, rfl⟩ := h
      simp [run_eqGuard_agg w .neq t x y xs ys (by simpa using hg), run_neq_struct, h20 h1]
  · rename_i a b
    split at h
    · rename_i e
      simp only [Option.some.injEq] at h
      subst h
      simp [eqGuard, binOp, run_equal_bool w t a b e]
    · cases h
  · rename_i a b
    split at h
    · rename_i e
      simp only [Option.some.injEq] at h
      subst h
      simp [eqGuard, binOp, run_equal_bool w t a b e]
    · cases h
  · rename_i a b
    split at h
    · simp only [Option.some.injEq] at h
      subst h
      simp [eqGuard, binOp, Op.stringOp, beq_toListBytes]
    · cases h
  · rename_i a b
    split at h
    · simp only [Option.some.injEq] at h
      subst h
      simp [eqGuard, binOp, Op.stringOp, beq_toListBytes]
    · cases h
  · cases h
def qhd (P : Program) (op : BinOp) (t : TypeId) (x y : Operand) (p q : PV) (ans : List Ans) : Got :=
  match p.int, q.int with
  | some (k, a), some (k', b) => if k = k' then qhc op k a b ans else none
  | _, _ =>
    match (match p.value, q.value with | some u, some v => eqBin P op t u v | _, _ => none) with
    | some c => some (.one (.sb c), ans, [])
    | none =>
    match p.value, q.value, ans with
    | some u, some v, .eq c :: r => some (.one (.sb c), r, [qhb P op t x y u v (.bool c)])
    | some u, some v, .pv (.al (.one (.v c))) :: r => some (.one (.v c), r, [qhb P op t x y u v c])
    | _, _, _ => none
theorem qnu {P : Program} {w : World} {ω : Own} {τ : Nat → Nat × Value} {op : BinOp} {t : TypeId} {x y : Operand} {p q r : PV} {u v : Value} {ans ans' : List Ans} {obs : List Prop}
    (hp : SatP (Sat w ω τ) p u) (hq : SatP (Sat w ω τ) q v) (h : qhd P op t x y p q ans = some (r, ans', obs)) (ho : Obs obs) :
    ∃ z, ((do eqGuard op t x y u v; binOp op t u v : Sem Value)).run P w = .ok z w ∧ SatP (Sat w ω τ) r z := by
  unfold qhd at h
  split at h
  · rename_i k a k' b e1 e2
    split at h
    · rename_i hk
      subst hk
      rw [PV.int_sat e1 hp, PV.int_sat e2 hq]
      exact qns t x y h ho
    · cases h
  · split at h
    · rename_i c e0
      simp only [Option.some.injEq, Prod.mk.injEq] at h
      obtain ⟨rfl, _, _⟩ := h
      split at e0
      · rename_i u' v' e1 e2
        rw [PV.value_sat e1 hp, PV.value_sat e2 hq]
        exact ⟨_, qnt e0 w, rfl⟩
      · cases e0
    · split at h
      · rename_i u' v' c r' e1 e2
        simp only [Option.some.injEq, Prod.mk.injEq] at h
        obtain ⟨rfl, _, rfl⟩ := h
        rw [PV.value_sat e1 hp, PV.value_sat e2 hq]
        exact ⟨_, ho.1 w, rfl⟩
      · rename_i u' v' c r' e1 e2
        simp only [Option.some.injEq, Prod.mk.injEq] at h
        obtain ⟨rfl, _, rfl⟩ := h
        rw [PV.value_sat e1 hp, PV.value_sat e2 hq]
        exact ⟨_, ho.1 w, rfl⟩
      · cases h
end Go.Sx
