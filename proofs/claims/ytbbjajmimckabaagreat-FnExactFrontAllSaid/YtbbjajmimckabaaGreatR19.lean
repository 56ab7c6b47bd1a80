/- Arguments that are handed over: the contract, and a call under it. -/
import Derived.Test.YtbbjajmimckabaaGreatR12
set_option linter.unusedVariables false
set_option linter.unusedSimpArgs false
namespace Go.Sx
open Go.RowKit

/-- A cell of an argument: looked at, or handed over (what it holds before; what behind, if it stands there still). -/
inductive GC where
  | ro (d : D)
  | gv (k : Nat) (es : List (List D)) (post : Option (List (List D)))

inductive GA where
  | one (c : GC)
  | agg (cs : List GC)

def gTok (i j : Nat) : Nat := giv + (100 * i + j)

def GA.cell (j : Nat) : GA → Option GC
  | .one c => if j = 0 then some c else none
  | .agg cs => cs[j]?

/-- The cell's value. -/
def cellOf (v : Value) (j : Nat) : Value := v.cells.getD j undef

def GcOk (w : World) (ω : Own) (t : Nat) : GC → Value → Prop
  | .ro d, y => Rep w ω Tag.free.R d y
  | .gv k es _, y => Rep w ω (Tag.own t).R (.sl k es) y

def GaOk (w : World) (ω : Own) (i : Nat) : GA → Value → Prop
  | .one c, y => GcOk w ω (gTok i 0) c y
  | .agg cs, y => ∃ vs : Array Value, y = .agg vs ∧ vs.size = cs.length ∧ ∀ (j : Nat) (c : GC), cs[j]? = some c → ∃ u, vs[j]? = some u ∧ GcOk w ω (gTok i j) c u

/-- Who owns what is handed over. -/
def Given (w : World) (ω : Own) : Prop := ∀ b, ω b ≠ .imm → (∃ t q, ω b = .tok t q ∧ giv ≤ t) ∧ ∃ arr ty, w.heap[b]? = some (.cells arr ty (0, 0))

def GasOk (w : World) (ω : Own) (args : List GA) (vs : Array Value) : Prop := Given w ω ∧ vs.size = args.length ∧ ∀ (i : Nat) (ga : GA), args[i]? = some ga → ∃ v, vs[i]? = some v ∧ GaOk w ω i ga v

/-- Behind the call: what was handed over and stands there still. -/
def Kept (w : World) (ω : Own) (args : List GA) (vs : Array Value) : Prop :=
  ∀ (i j : Nat) (ga : GA) (k : Nat) (es es' : List (List D)), args[i]? = some ga → ga.cell j = some (.gv k es (some es')) → Rep w ω (Tag.own (gTok i j)).R (.sl k es') (cellOf (vs.getD i undef) j)

/-- THE CONTRACT, with arguments that are handed over. -/
def RetG (P : Program) (f : FuncId) (args : List GA) (rs : List AD) : Prop :=
  ∀ (w : World) (vs : Array Value) (ω : Own), GasOk w ω args vs → Calls P f vs w fun e w' => ∃ v, e = .returned v ∧ Bel ⟨w, fun b => ω b ≠ .imm, fun _ => (0, undef)⟩ w' ∧
    ∃ ω' : Own, (∀ b, b < w.heap.size → ω b = .imm → ω' b = .imm) ∧ (∀ b, ω' b ≠ .imm → (∃ t q, ω' b = .tok t q) ∧ ∃ arr ty, w'.heap[b]? = some (.cells arr ty (0, 0))) ∧ Kept w' ω' args vs ∧ ResAll w' ω' rs v


/-- What is handed over at a call: where it stands among the arguments, the tree (and the place in it), what it holds before and behind. -/
structure HL where
  i : Nat
  j : Nat
  t : Nat
  p : Option (Nat × Nat)
  k : Nat
  es : List (List D)
  post : Option (List (List D))

abbrev Mk := Option (Option (List (List D)))

def cellG (bs : Boxes) (i j : Nat) : Mk → Leaf → Option (GC × List HL × List Leaf)
  | none, l => (l.argD bs).map fun d => (.ro d, [], [l])
  | some post, .sl (.own t) k es => some (.gv k es post, [⟨i, j, t, none, k, es, post⟩], [])
  | some post, .sn t a b k es => some (.gv k es post, [⟨i, j, t, some (a, b), k, es, post⟩], [])
  | _, _ => none

def cellsG (bs : Boxes) (i : Nat) : Nat → List Mk → List Leaf → Option (List GC × List HL × List Leaf)
  | _, [], [] => some ([], [], [])
  | j, m :: ms, l :: ls =>
    match cellG bs i j m l, cellsG bs i (j + 1) ms ls with
    | some (c, h, r), some (cs, hs, rs) => some (c :: cs, h ++ hs, r ++ rs)
    | _, _ => none
  | _, _, _ => none

def argG (bs : Boxes) (i : Nat) (ms : List Mk) : PV → Option (GA × List HL × List Leaf)
  | .al (.one l) => match ms with | [m] => (cellG bs i 0 m l).map fun r => (.one r.1, r.2) | _ => none
  | .al (.agg ls) => (cellsG bs i 0 ms ls).map fun r => (.agg r.1, r.2)
  | _ => none

def argsG (bs : Boxes) : Nat → List (List Mk) → List PV → Option (List GA × List HL × List Leaf)
  | _, [], [] => some ([], [], [])
  | i, ms :: mss, p :: ps =>
    match argG bs i ms p, argsG bs (i + 1) mss ps with
    | some (a, h, r), some (as, hs, rs) => some (a :: as, h ++ hs, r ++ rs)
    | _, _ => none
  | _, _, _ => none

def tokH (hs : List HL) (t : Nat) : Bool := hs.any fun h => h.t == t

def Tag.mentH (hs : List HL) : Tag → Bool
  | .free => false
  | .own t => tokH hs t
  | .ro t => tokH hs t

def Leaf.mentH0 (hs : List HL) : Leaf → Bool
  | .sl t _ _ => t.mentH hs
  | .ep t _ _ _ _ => t.mentH hs
  | .sn t _ _ _ _ => tokH hs t
  | .np _ _ => true
  | _ => false

/-- Does it lead into what is handed over? -/
def Leaf.mentH (bs : Boxes) (hs : List HL) : Leaf → Bool
  | .ptr id _ => match getBox id bs with | some ls => ls.any (Leaf.mentH0 hs) | none => true
  | .clo _ ids => ids.any fun id => match getBox id bs with | some ls => ls.any (Leaf.mentH0 hs) | none => true
  | l => l.mentH0 hs

/-- Two that are handed over lie apart, and stand at two places. -/
def HL.apart (h y : HL) : Bool :=
  (h.i != y.i || h.j != y.j) && (h.t != y.t || match h.p, y.p with | some p, some q => p.2 != q.2 | _, _ => false)

def handsOk : List HL → Bool
  | [] => true
  | h :: r => decide (h.j < 100) && (r.all (HL.apart h) && handsOk r)

theorem handsOk_mem : ∀ {hs : List HL}, handsOk hs = true → ∀ h ∈ hs, ∀ y ∈ hs, h = y ∨ (HL.apart h y = true ∨ HL.apart y h = true)
  | [], _, h, hh, _, _ => by cases hh
  | x :: r, hk, h, hh, y, hy => by
    simp only [handsOk, Bool.and_eq_true, List.all_eq_true] at hk
    rcases List.mem_cons.1 hh with e1 | hh1
    · rcases List.mem_cons.1 hy with e2 | hy1
      · exact .inl (e1.trans e2.symm)
      · rw [e1]; exact .inr (.inl (hk.2.1 y hy1))
    · rcases List.mem_cons.1 hy with e2 | hy1
      · rw [e2]; exact .inr (.inr (hk.2.1 h hh1))
      · exact handsOk_mem hk.2.2 h hh1 y hy1

theorem handsOk_j : ∀ {hs : List HL}, handsOk hs = true → ∀ h ∈ hs, h.j < 100
  | [], _, h, hh => by cases hh
  | x :: r, hk, h, hh => by
    simp only [handsOk, Bool.and_eq_true, decide_eq_true_eq] at hk
    rcases List.mem_cons.1 hh with rfl | hh
    · exact hk.1
    · exact handsOk_j hk.2.2 h hh

/-- The rest of a path, if it goes through this. -/
def HL.fit (h : HL) (t : Nat) (q : List (Nat × Nat)) : Option (List (Nat × Nat)) :=
  if h.t = t then
    match h.p, q with
    | none, q => some q
    | some p, x :: q' => if x = p then some q' else none
    | some _, [] => none
  else none

def findH (t : Nat) (q : List (Nat × Nat)) : List HL → Option (Nat × List (Nat × Nat))
  | [] => none
  | h :: r => match h.fit t q with | some q' => some (gTok h.i h.j, q') | none => findH t q r

theorem fit_apart {h y : HL} {t : Nat} {q q1 q2 : List (Nat × Nat)} (h1 : h.fit t q = some q1) (h2 : y.fit t q = some q2) : HL.apart h y = false := by
  unfold HL.fit at h1 h2
  split at h1
  · rename_i e1
    split at h2
    · rename_i e2
      have e3 : (h.t != y.t) = false := by simp [e1, e2]
      simp only [HL.apart, e3, Bool.false_or, Bool.and_eq_false_imp]
      intro _
      split at h1
      · rename_i hp
        rw [hp]
      · rename_i p x q' hp
        split at h1
        · rename_i hx
          split at h2
          · rename_i hp2
            rw [hp, hp2]
          · rename_i p2 x2 q2' hp2 heq
            split at h2
            · rename_i hx2
              rw [hp, hp2]
              simp only [List.cons.injEq] at heq
              obtain ⟨rfl, _⟩ := heq
              subst hx
              subst hx2
              simp
            · cases h2
          · cases h2
        · cases h1
      · cases h1
    · cases h2
  · cases h1

theorem apart_symm {h y : HL} (e : HL.apart h y = true) : HL.apart y h = true := by
  simp only [HL.apart, Bool.and_eq_true, Bool.or_eq_true, bne_iff_ne, ne_eq] at e ⊢
  refine ⟨by omega, ?_⟩
  rcases e.2 with e2 | e2
  · exact .inl fun e3 => e2 e3.symm
  · right
    split at e2
    · rename_i p q e3 e4
      rw [e3, e4]
      simp only [bne_iff_ne, ne_eq] at e2 ⊢
      exact fun e5 => e2 e5.symm
    · cases e2

theorem findH_of {t : Nat} {q q' : List (Nat × Nat)} : ∀ {hs : List HL}, handsOk hs = true → ∀ {h : HL}, h ∈ hs → h.fit t q = some q' → findH t q hs = some (gTok h.i h.j, q')
  | [], _, h, hh, _ => by cases hh
  | x :: r, hk, h, hh, hf => by
    have hk' := hk
    simp only [handsOk, Bool.and_eq_true, List.all_eq_true] at hk
    simp only [findH]
    rcases List.mem_cons.1 hh with rfl | hh
    · rw [hf]
    · cases e : x.fit t q with
      | none => exact findH_of hk.2.2 hh hf
      | some q2 =>
        have := fit_apart e hf
        rw [hk.2.1 h hh] at this
        cases this

theorem findH_some {t g : Nat} {q q' : List (Nat × Nat)} : ∀ {hs : List HL}, findH t q hs = some (g, q') → ∃ h ∈ hs, h.fit t q = some q' ∧ g = gTok h.i h.j
  | [], h => by cases h
  | x :: r, h => by
    simp only [findH] at h
    split at h
    · rename_i q2 e
      simp only [Option.some.injEq, Prod.mk.injEq] at h
      obtain ⟨rfl, rfl⟩ := h
      exact ⟨x, List.mem_cons_self, e, rfl⟩
    · obtain ⟨y, hy, h2⟩ := findH_some h
      exact ⟨y, List.mem_cons_of_mem _ hy, h2⟩

theorem fit_tok {h : HL} {t : Nat} {q q' : List (Nat × Nat)} (e : h.fit t q = some q') : h.t = t ∧ q = h.p.toList ++ q' := by
  unfold HL.fit at e
  split at e
  · rename_i e1
    refine ⟨e1, ?_⟩
    split at e
    · rename_i hp
      simp only [Option.some.injEq] at e
      rw [hp, e]; rfl
    · rename_i p x q2 hp
      split at e
      · rename_i hx
        simp only [Option.some.injEq] at e
        rw [hp, hx, e]; rfl
      · cases e
    · cases e
  · cases e

theorem fit_self (h : HL) (q : List (Nat × Nat)) : h.fit h.t (h.p.toList ++ q) = some q := by
  unfold HL.fit
  rw [if_pos rfl]
  cases h.p with
  | none => rfl
  | some p => simp

/-- The owners as the callee is told of them. -/
def handOwn (hs : List HL) (ω : Own) : Own := fun b =>
  match ω b with
  | .tok t q => match findH t q hs with | some (g, q') => .tok g q' | none => .imm
  | _ => .imm

def backH (g : Nat) : List HL → Option HL
  | [] => none
  | h :: r => if gTok h.i h.j = g then some h else backH g r

theorem backH_of : ∀ {hs : List HL}, handsOk hs = true → ∀ {h : HL}, h ∈ hs → backH (gTok h.i h.j) hs = some h
  | [], _, h, hh => by cases hh
  | x :: r, hk, h, hh => by
    have hj := handsOk_j hk
    have hk' := hk
    simp only [handsOk, Bool.and_eq_true, List.all_eq_true] at hk
    simp only [backH]
    rcases List.mem_cons.1 hh with rfl | hh'
    · rw [if_pos rfl]
    · rw [if_neg]
      · exact backH_of hk.2.2 hh'
      · intro e
        have h1 := hj x List.mem_cons_self
        have h2 := hj h (List.mem_cons_of_mem _ hh')
        have h3 := hk.2.1 h hh'
        simp only [HL.apart, Bool.and_eq_true, Bool.or_eq_true, bne_iff_ne, ne_eq] at h3
        simp only [gTok] at e
        omega

/-- Owners behind the call. -/
def backOwn (hs : List HL) (t0 : Nat) : Owner → Owner
  | .tok s q => if giv ≤ s then (match backH s hs with | some h => .tok h.t (h.p.toList ++ q) | none => .imm) else .tok (t0 + s) q
  | _ => .imm

/-- The first that is handed over of a tree. -/
def firstH (t : Nat) : List HL → Option HL
  | [] => none
  | h :: r => if h.t = t then some h else firstH t r

theorem firstH_none {t : Nat} : ∀ {hs : List HL}, firstH t hs = none → tokH hs t = false
  | [], _ => rfl
  | h :: r, e => by
    simp only [firstH] at e
    split at e
    · cases e
    · rename_i hne
      have := firstH_none e
      simp only [tokH, List.any_cons, Bool.or_eq_false_iff] at this ⊢
      exact ⟨by simpa using hne, this⟩

theorem firstH_some {t : Nat} {h : HL} : ∀ {hs : List HL}, firstH t hs = some h → h ∈ hs ∧ h.t = t
  | [], e => by cases e
  | x :: r, e => by
    simp only [firstH] at e
    split at e
    · simp only [Option.some.injEq] at e; subst e; exact ⟨List.mem_cons_self, ‹_›⟩
    · obtain ⟨h1, h2⟩ := firstH_some e; exact ⟨List.mem_cons_of_mem _ h1, h2⟩

/-- The parts of a tree that are handed over stand there anew. -/
def subRow : List HL → List D → List D
  | [], ds => ds
  | h :: r, ds => match h.p, h.post with
    | some p, some es => subRow r (ds.set p.2 (.sl h.k es))
    | _, _ => subRow r ds

/-- Leaves behind the call: 'tS', 'kS', 'esS': the tree of which parts were handed over, as it stands then. -/
def callLeaf (hs : List HL) (t0 tS kS : Nat) (esS : List (List D)) : Leaf → Leaf
  | .sl (.own t) k es =>
    match firstH t hs with
    | some h => match h.p, h.post with
      | none, some es' => .sl (.own t) h.k es'
      | none, none => .und
      | some _, _ => if t = tS then .sl (.own t) kS esS else .und
    | none => Leaf.re (calTag t0) (fun _ => true) (.sl (.own t) k es)
  | l => if l.mentH0 hs then .und else l.re (calTag t0) fun _ => true
end Go.Sx
