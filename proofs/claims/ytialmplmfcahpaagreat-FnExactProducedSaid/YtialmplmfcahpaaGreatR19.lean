/- Arguments that are handed over: the contract, and a call under it. -/
import Derived.Test.YtialmplmfcahpaaGreatR11
set_option linter.unusedVariables false
set_option linter.unusedSimpArgs false
namespace Go.Sx
open Go.RowKit
inductive GC where
  | ro (d : D)
  | gv (k : Nat) (es : List (List D)) (post : Option (List (List D)))
inductive GA where
  | one (c : GC)
  | agg (cs : List GC)
def gTok (i j : Nat) : Nat := giv + (100 * i + j)
def GA.cell (j : Nat) : GA → Option GC
  | .one c => if j = 0 then some c else none
  | .agg cs => cs[j]?
def cellOf (v : Value) (j : Nat) : Value := v.cells.getD j undef
def GcOk (w : World) (ω : Own) (t : Nat) : GC → Value → Prop
  | .ro d, y => Rep w ω Tag.free.R d y
  | .gv k es _, y => Rep w ω (Tag.own t).R (.sl k es) y
def GaOk (w : World) (ω : Own) (i : Nat) : GA → Value → Prop
  | .one c, y => GcOk w ω (gTok i 0) c y
  | .agg cs, y => ∃ vs : Array Value, y = .agg vs ∧ vs.size = cs.length ∧ ∀ (j : Nat) (c : GC), cs[j]? = some c → ∃ u, vs[j]? = some u ∧ GcOk w ω (gTok i j) c u
def Given (w : World) (ω : Own) : Prop := ∀ b, ω b ≠ .imm → (∃ t q, ω b = .tok t q ∧ giv ≤ t) ∧ ∃ arr ty, w.heap[b]? = some (.cells arr ty (0, 0))
def GasOk (w : World) (ω : Own) (args : List GA) (vs : Array Value) : Prop := Given w ω ∧ vs.size = args.length ∧ ∀ (i : Nat) (ga : GA), args[i]? = some ga → ∃ v, vs[i]? = some v ∧ GaOk w ω i ga v
def Kept (w : World) (ω : Own) (args : List GA) (vs : Array Value) : Prop :=
  ∀ (i j : Nat) (ga : GA) (k : Nat) (es es' : List (List D)), args[i]? = some ga → ga.cell j = some (.gv k es (some es')) → Rep w ω (Tag.own (gTok i j)).R (.sl k es') (cellOf (vs.getD i undef) j)
def RetG (P : Program) (f : FuncId) (args : List GA) (rs : List AD) : Prop :=
  ∀ (w : World) (vs : Array Value) (ω : Own), GasOk w ω args vs → Calls P f vs w fun e w' => ∃ v, e = .returned v ∧ Bel ⟨w, fun b => ω b ≠ .imm, fun _ => (0, undef)⟩ w' ∧
    ∃ ω' : Own, (∀ b, b < w.heap.size → ω b = .imm → ω' b = .imm) ∧ (∀ b, ω' b ≠ .imm → (∃ t q, ω' b = .tok t q) ∧ ∃ arr ty, w'.heap[b]? = some (.cells arr ty (0, 0))) ∧ Kept w' ω' args vs ∧ qb7 w' ω' rs v
structure HL where
  i : Nat
  j : Nat
  t : Nat
  p : Option (Nat × Nat)
  k : Nat
  es : List (List D)
  post : Option (List (List D))
abbrev Mk := Option (Option (List (List D)))
def cellG (bs : Boxes) (i j : Nat) : Mk → Leaf → Option (GC × List HL × List Leaf)
  | none, l => (l.argD bs).map fun d => (.ro d, [], [l])
  | some post, .sl (.own t) k es => some (.gv k es post, [⟨i, j, t, none, k, es, post⟩], [])
  | some post, .sn t a b k es .here => some (.gv k es post, [⟨i, j, t, some (a, b), k, es, post⟩], [])
  | _, _ => none
def qbM (bs : Boxes) (i : Nat) : Nat → List Mk → List Leaf → Option (List GC × List HL × List Leaf)
  | _, [], [] => some ([], [], [])
  | j, m :: ms, l :: ls =>
    match cellG bs i j m l, qbM bs i (j + 1) ms ls with
    | some (c, h, r), some (cs, hs, rs) => some (c :: cs, h ++ hs, r ++ rs)
    | _, _ => none
  | _, _, _ => none
def argG (bs : Boxes) (i : Nat) (ms : List Mk) : PV → Option (GA × List HL × List Leaf)
  | .al (.one l) => match ms with | [m] => (cellG bs i 0 m l).map fun r => (.one r.1, r.2) | _ => none
  | .al (.agg ls) => (qbM bs i 0 ms ls).map fun r => (.agg r.1, r.2)
  | _ => none
def argsG (bs : Boxes) : Nat → List (List Mk) → List PV → Option (List GA × List HL × List Leaf)
  | _, [], [] => some ([], [], [])
  | i, ms :: mss, p :: ps =>
    match argG bs i ms p, argsG bs (i + 1) mss ps with
    | some (a, h, r), some (as, hs, rs) => some (a :: as, h ++ hs, r ++ rs)
    | _, _ => none
  | _, _, _ => none
def tokH (hs : List HL) (t : Nat) : Bool := hs.any fun h => h.t == t
def Tag.mentH (hs : List HL) : Tag → Bool
  | .free => false
  | .own t => tokH hs t
  | .ro t => tokH hs t
def Leaf.mentH0 (hs : List HL) : Leaf → Bool
  | .sl t _ _ => t.mentH hs
  | .ep t _ _ _ _ => t.mentH hs
  | .sn t _ _ _ _ _ => tokH hs t
  | .np _ _ => true
  | _ => false
def Leaf.mentH (bs : Boxes) (hs : List HL) : Leaf → Bool
  | .ptr id _ => match qaz id bs with | some ls => ls.any (Leaf.mentH0 hs) | none => true
  | .clo _ ids => ids.any fun id => match qaz id bs with | some ls => ls.any (Leaf.mentH0 hs) | none => true
  | l => l.mentH0 hs
def HL.apart (h y : HL) : Bool :=
  (h.i != y.i || h.j != y.j) && (h.t != y.t || match h.p, y.p with | some p, some q => p.2 != q.2 | _, _ => false)
def qby : List HL → Bool
  | [] => true
  | h :: r => decide (h.j < 100) && (r.all (HL.apart h) && qby r)
theorem qkm : ∀ {hs : List HL}, qby hs = true → ∀ h ∈ hs, ∀ y ∈ hs, h = y ∨ (HL.apart h y = true ∨ HL.apart y h = true)
  | [], _, h, hh, _, _ => by cases hh
  | x :: r, hk, h, hh, y, hy => by
    simp only [qby, Bool.and_eq_true, List.all_eq_true] at hk
    rcases List.mem_cons.1 hh with e1 | hh1
    · rcases List.mem_cons.1 hy with e2 | hy1
      · exact .inl (e1.trans e2.symm)
      · rw [e1]; exact .inr (.inl (hk.2.1 y hy1))
    · rcases List.mem_cons.1 hy with e2 | hy1
      · rw [e2]; exact .inr (.inr (hk.2.1 h hh1))
      · exact qkm hk.2.2 h hh1 y hy1
theorem qkn : ∀ {hs : List HL}, qby hs = true → ∀ h ∈ hs, h.j < 100
  | [], _, h, hh => by cases hh
  | x :: r, hk, h, hh => by
    simp only [qby, Bool.and_eq_true, decide_eq_true_eq] at hk
    rcases List.mem_cons.1 hh with rfl | hh
    · exact hk.1
    · exact qkn hk.2.2 h hh
def HL.fit (h : HL) (t : Nat) (q : List (Nat × Nat)) : Option (List (Nat × Nat)) :=
  if h.t = t then
    match h.p, q with
    | none, q => some q
    | some p, x :: q' => if x = p then some q' else none
    | some _, [] => none
  else none
def findH (t : Nat) (q : List (Nat × Nat)) : List HL → Option (Nat × List (Nat × Nat))
  | [] => none
  | h :: r => match h.fit t q with | some q' => some (gTok h.i h.j, q') | none => findH t q r
theorem qn0 {h y : HL} {t : Nat} {q q1 q2 : List (Nat × Nat)} (h1 : h.fit t q = some q1) (h2 : y.fit t q = some q2) : HL.apart h y = false := by
  unfold HL.fit at h1 h2
  split at h1
  · rename_i e1
    split at h2
    · rename_i e2
      have e3 : (h.t != y.t) = false := by simp [e1, e2]
      simp only [HL.apart, e3, Bool.false_or, Bool.and_eq_false_imp]
      intro _
      split at h1
      · rename_i hp
        rw [hp]
      · rename_i p x q' hp
        split at h1
        · rename_i hx
          split at h2
          · rename_i hp2
            rw [hp, hp2]
          · rename_i p2 x2 q2' hp2 heq
            split at h2
            · rename_i hx2
              rw [hp, hp2]
              simp only [List.cons.injEq] at heq
              obtain ⟨rfl, _⟩ := heq
              subst hx
              subst hx2
              simp
            · cases h2
          · cases h2
        · cases h1
      · cases h1
    · cases h2
  · cases h1
theorem qhO {t : Nat} {q q' : List (Nat × Nat)} : ∀ {hs : List HL}, qby hs = true → ∀ {h : HL}, h ∈ hs → h.fit t q = some q' → findH t q hs = some (gTok h.i h.j, q')
  | [], _, h, hh, _ => by cases hh
  | x :: r, hk, h, hh, hf => by
    have hk' := hk
    simp only [qby, Bool.and_eq_true, List.all_eq_true] at hk
    simp only [findH]
    rcases List.mem_cons.1 hh with rfl | hh
    · rw [hf]
    · cases e : x.fit t q with
      | none => exact qhO hk.2.2 hh hf
      | some q2 =>
        have := qn0 e hf
        rw [hk.2.1 h hh] at this
        cases this
theorem qe5 {t g : Nat} {q q' : List (Nat × Nat)} : ∀ {hs : List HL}, findH t q hs = some (g, q') → ∃ h ∈ hs, h.fit t q = some q' ∧ g = gTok h.i h.j
  | [], h => by cases h
  | x :: r, h => by
    simp only [findH] at h
    split at h
    · rename_i q2 e
      simp only [Option.some.injEq, Prod.mk.injEq] at h
      obtain ⟨rfl, rfl⟩ := h
      exact ⟨x, List.mem_cons_self, e, rfl⟩
    · obtain ⟨y, hy, h2⟩ := qe5 h
      exact ⟨y, List.mem_cons_of_mem _ hy, h2⟩
theorem qko {h : HL} {t : Nat} {q q' : List (Nat × Nat)} (e : h.fit t q = some q') : h.t = t ∧ q = h.p.toList ++ q' := by
  unfold HL.fit at e
  split at e
  · rename_i e1
    refine ⟨e1, ?_⟩
    split at e
    · rename_i hp
      simp only [Option.some.injEq] at e
      rw [hp, e]; rfl
    · rename_i p x q2 hp
      split at e
      · rename_i hx
        simp only [Option.some.injEq] at e
        rw [hp, hx, e]; rfl
      · cases e
    · cases e
  · cases e
theorem qkp (h : HL) (q : List (Nat × Nat)) : h.fit h.t (h.p.toList ++ q) = some q := by
  unfold HL.fit
  rw [if_pos rfl]
  cases h.p with
  | none => rfl
  | some p => simp
def qaB (hs : List HL) (ω : Own) : Own := fun b =>
  match ω b with
  | .tok t q => match findH t q hs with | some (g, q') => .tok g q' | none => .imm
  | _ => .imm
def backH (g : Nat) : List HL → Option HL
  | [] => none
  | h :: r => if gTok h.i h.j = g then some h else backH g r
theorem qkq : ∀ {hs : List HL}, qby hs = true → ∀ {h : HL}, h ∈ hs → backH (gTok h.i h.j) hs = some h
  | [], _, h, hh => by cases hh
  | x :: r, hk, h, hh => by
    have hj := qkn hk
    have hk' := hk
    simp only [qby, Bool.and_eq_true, List.all_eq_true] at hk
    simp only [backH]
    rcases List.mem_cons.1 hh with rfl | hh'
    · rw [if_pos rfl]
    · rw [if_neg]
      · exact qkq hk.2.2 hh'
      · intro e
        have h1 := hj x List.mem_cons_self
        have h2 := hj h (List.mem_cons_of_mem _ hh')
        have h3 := hk.2.1 h hh'
        simp only [HL.apart, Bool.and_eq_true, Bool.or_eq_true, bne_iff_ne, ne_eq] at h3
        simp only [gTok] at e
        omega
def qe6 (hs : List HL) (t0 : Nat) : Owner → Owner
  | .tok s q => if giv ≤ s then (match backH s hs with | some h => .tok h.t (h.p.toList ++ q) | none => .imm) else .tok (t0 + s) q
  | _ => .imm
def qdo (t : Nat) : List HL → Option HL
  | [] => none
  | h :: r => if h.t = t then some h else qdo t r
theorem qkr {t : Nat} : ∀ {hs : List HL}, qdo t hs = none → tokH hs t = false
  | [], _ => rfl
  | h :: r, e => by
    simp only [qdo] at e
    split at e
    · cases e
    · rename_i hne
      have := qkr e
      simp only [tokH, List.any_cons, Bool.or_eq_false_iff] at this ⊢
      exact ⟨by simpa using hne, this⟩
theorem qks {t : Nat} {h : HL} : ∀ {hs : List HL}, qdo t hs = some h → h ∈ hs ∧ h.t = t
  | [], e => by cases e
  | x :: r, e => by
    simp only [qdo] at e
    split at e
    · simp only [Option.some.injEq] at e; subst e; exact ⟨List.mem_cons_self, ‹_›⟩
    · obtain ⟨h1, h2⟩ := qks e; exact ⟨List.mem_cons_of_mem _ h1, h2⟩
def qbp : List HL → List D → List D
  | [], ds => ds
  | h :: r, ds => match h.p, h.post with
    | some p, some es => qbp r (ds.set p.2 (.sl h.k es))
    | _, _ => qbp r ds
def qb9 (hs : List HL) (t0 tS kS : Nat) (esS : List (List D)) : Leaf → Leaf
  | .sl (.own t) k es =>
    match qdo t hs with
    | some h => match h.p, h.post with
      | none, some es' => .sl (.own t) h.k es'
      | none, none => .und
      | some _, _ => if t = tS then .sl (.own t) kS esS else .und
    | none => Leaf.re (qaY t0) (fun _ => true) (.sl (.own t) k es)
  | l => if l.mentH0 hs then .und else l.re (qaY t0) fun _ => true
end Go.Sx
namespace Go.Sx
open Go.RowKit
theorem qn1 {hs : List HL} {t : Nat} (h : tokH hs t = false) : ∀ y ∈ hs, y.t ≠ t := by
  intro y hy e
  simp only [tokH, List.any_eq_false, beq_iff_eq] at h
  exact h y hy e
theorem qhP {hs : List HL} {t : Nat} (h : tokH hs t = false) (q : List (Nat × Nat)) : findH t q hs = none := by
  cases e : findH t q hs with
  | none => rfl
  | some x =>
    obtain ⟨g, q'⟩ := x
    obtain ⟨y, hy, hf, _⟩ := qe5 e
    exact absurd (qko hf).1 (qn1 h y hy)
structure HandAt (w : World) (ω : Own) (τ : Nat → Nat × Value) (h : HL) (u : Value) : Prop where
  rep : Rep w ω (fun q o => o = .tok h.t (h.p.toList ++ q)) (.sl h.k h.es) u
  root : h.p = none → τ h.t = (h.k, u)
  cell : ∀ a b, h.p = some (a, b) → ∃ (kT b0 off len cap : Nat) (arr : Array Value) (ty : TypeId) (fr : Nat × Nat), τ h.t = (kT, .slice (some ⟨b0, off, none⟩) len cap) ∧ ω b0 = .tok h.t [] ∧ w.heap[b0]? = some (.cells arr ty fr) ∧ arr[off + a * kT + b]? = some u
structure SubAt (w : World) (ω : Own) (τ : Nat → Nat × Value) (hs : List HL) (tS kS : Nat) (esS : List (List D)) : Prop where
  ex : ∀ h ∈ hs, ∀ p, h.p = some p → h.t = tS → ∃ (es0 : List (List D)) (y : Value) (ds : List D) (a : Nat), Sat w ω τ (.sl (.own tS) kS es0) y ∧ es0[a]? = some ds ∧ ds.length = kS ∧ esS = es0.set a (qbp hs ds) ∧
    ∀ x ∈ hs, ∀ q, x.p = some q → x.t = tS ∧ q.1 = a ∧ ∃ es', x.post = some es'
theorem qe7 : ∀ (hs : List HL) (ds : List D), (qbp hs ds).length = ds.length
  | [], _ => rfl
  | h :: r, ds => by
    simp only [qbp]
    split
    · rw [qe7 r, List.length_set]
    · exact qe7 r ds
theorem qhQ {y : Nat} {d : D} : ∀ {hs : List HL} {ds : List D}, (qbp hs ds)[y]? = some d → (∃ h ∈ hs, ∃ a es', h.p = some (a, y) ∧ h.post = some es' ∧ d = .sl h.k es') ∨ ds[y]? = some d ∧ ∀ h ∈ hs, ∀ a es', h.p = some (a, y) → h.post = some es' → False
  | [], ds, h => .inr ⟨h, fun _ hh => by cases hh⟩
  | h :: r, ds, hd => by
    simp only [qbp] at hd
    split at hd
    · rename_i p es' e1 e2
      rcases qhQ hd with ⟨x, hx, a, es2, h1, h2, h3⟩ | ⟨h1, h2⟩
      · exact .inl ⟨x, List.mem_cons_of_mem _ hx, a, es2, h1, h2, h3⟩
      · rw [List.getElem?_set] at h1
        split at h1
        · rename_i hp
          split at h1
          · simp only [Option.some.injEq] at h1
            exact .inl ⟨h, List.mem_cons_self, p.1, es', by rw [e1, ← hp], e2, h1.symm⟩
          · cases h1
        · rename_i hp
          refine .inr ⟨h1, fun x hx a es2 h3 h4 => ?_⟩
          rcases List.mem_cons.1 hx with rfl | hx
          · rw [e1] at h3
            simp only [Option.some.injEq] at h3
            rw [h3] at hp
            exact hp rfl
          · exact h2 x hx a es2 h3 h4
    · rename_i hne
      rcases qhQ hd with ⟨x, hx, a, es2, h1, h2, h3⟩ | ⟨h1, h2⟩
      · exact .inl ⟨x, List.mem_cons_of_mem _ hx, a, es2, h1, h2, h3⟩
      · refine .inr ⟨h1, fun x hx a es2 h3 h4 => ?_⟩
        rcases List.mem_cons.1 hx with rfl | hx
        · exact hne _ _ h3 h4
        · exact h2 x hx a es2 h3 h4
theorem RelAt.calledG {w0 : Base} {st : St} {a : Act} {w w' : World} {ω : Own} {τ : Nat → Nat × Value} (hrel : RelAt w0 st a w ω τ) (t0 : Nat) {hs : List HL} {rs : List AD} {v : Value} {H : Nat → Nat × Value}
    (hok : qby hs = true) (hfit : qc2 rs = true) (htg : t0 + 10000 ≤ giv) (hrange : ∀ h ∈ hs, ¬ (t0 ≤ h.t ∧ h.t < t0 + 10000)) (hb : Bel ⟨w, fun b => qaB hs ω b ≠ .imm, H⟩ w') (ωc : Own)
    (hc1 : ∀ b, b < w.heap.size → qaB hs ω b = .imm → ωc b = .imm) (hc2 : ∀ b, ωc b ≠ .imm → (∃ t q, ωc b = .tok t q) ∧ ∃ arr ty, w'.heap[b]? = some (.cells arr ty (0, 0))) (hc3 : qb7 w' ωc rs v)
    (vals : HL → Value) (hkept : ∀ h ∈ hs, ∀ es', h.post = some es' → Rep w' ωc (Tag.own (gTok h.i h.j)).R (.sl h.k es') (vals h)) (hval : ∀ h ∈ hs, HandAt w ω τ h (vals h))
    {tS kS : Nat} {esS : List (List D)} (hsub : SubAt w ω τ hs tS kS esS) :
    ∃ ω' τ', RelAt w0 (st.map (qb9 hs t0 tS kS esS)) a w' ω' τ' ∧ SatP (Sat w' ω' τ') (resPV t0 rs) v := by
  classical
  let ω' : Own := fun b => if b < w.heap.size ∧ qaB hs ω b = .imm then qbx t0 (ω b) else qe6 hs t0 (ωc b)
  let τ' : Nat → Nat × Value := fun s => if t0 ≤ s ∧ s < t0 + 10000 then (hdrK rs (s - t0), hdrV rs v (s - t0)) else τ s
  have hold : ∀ b, b < w.heap.size → qaB hs ω b = .imm → ω' b = qbx t0 (ω b) := fun b hb h => by simp only [ω']; rw [if_pos ⟨hb, h⟩]
  have hnew : ∀ b, ωc b ≠ .imm → ω' b = qe6 hs t0 (ωc b) := fun b hb => by
    simp only [ω']
    rw [if_neg]
    rintro ⟨h1, h2⟩
    exact hb (hc1 b h1 h2)
  have hblk : ∀ b, b < w.heap.size → qaB hs ω b = .imm → w'.heap[b]? = w.heap[b]? := fun b hlt h => hb.block b hlt (fun hn => hn h)
  have himm : ∀ b, ω b = .imm → qaB hs ω b = .imm := fun b h => by simp only [qaB, h]
  have hboxI : ∀ b id, ω b = .box id → qaB hs ω b = .imm := fun b id h => by simp only [qaB, h]
  have htok : ∀ b s q, ω b = .tok s q → findH s q hs = none → qaB hs ω b = .imm := fun b s q h h2 => by simp only [qaB, h, h2]
  have hτ : ∀ h ∈ hs, τ' h.t = τ h.t := fun h hh => by simp only [τ']; rw [if_neg (hrange h hh)]
  have keep : ∀ (g g' : Tag) (b : Nat) (q : List (Nat × Nat)), g.mentH hs = false → qaY t0 g = some g' → b < w.heap.size → g.R q (ω b) → g'.R q (ω' b) ∧ w'.heap[b]? = w.heap[b]? := by
    intro g g' b q hm hg hlt hq
    have hi : qaB hs ω b = .imm := by
      cases g with
      | free => exact himm b hq
      | own s => exact htok b s q hq (qhP hm q)
      | ro s =>
        rcases hq with h | ⟨q', h⟩
        · exact himm b h
        · exact htok b s q' h (qhP hm q')
    refine ⟨?_, hblk b hlt hi⟩
    rw [hold b hlt hi]
    cases g with
    | free => simp only [qaY, Option.some.injEq] at hg; subst hg; simp only [Tag.R] at hq ⊢; rw [hq]; rfl
    | own s =>
      simp only [Tag.R] at hq
      simp only [qaY] at hg
      rw [hq]
      simp only [qbx]
      split at hg
      · simp only [Option.some.injEq] at hg; subst hg; rw [if_pos ‹_›]; rfl
      · simp only [Option.some.injEq] at hg; subst hg; rw [if_neg ‹_›]; rfl
    | ro s =>
      simp only [Tag.R] at hq
      simp only [qaY] at hg
      split at hg
      · simp only [Option.some.injEq] at hg; subst hg
        rcases hq with h | ⟨q', h⟩
        · rw [h]; rfl
        · rw [h]; simp only [qbx]; rw [if_pos ‹_›]; rfl
      · simp only [Option.some.injEq] at hg; subst hg
        rcases hq with h | ⟨q', h⟩
        · rw [h]; exact .inl rfl
        · rw [h]; simp only [qbx]; rw [if_neg ‹_›]; exact .inr ⟨q', rfl⟩
  have khdr : ∀ (g g' : Tag) (y : Nat × Value), qaY t0 g = some g' → g.hdr τ y → g'.hdr τ' y := by
    intro g g' y hg hy
    cases g with
    | free => simp only [qaY, Option.some.injEq] at hg; subst hg; exact trivial
    | own s =>
      simp only [qaY] at hg
      split at hg
      · simp only [Option.some.injEq] at hg; subst hg; exact trivial
      · simp only [Option.some.injEq] at hg; subst hg
        simp only [Tag.hdr, τ'] at hy ⊢
        rw [if_neg ‹_›]; exact hy
    | ro s =>
      simp only [qaY] at hg
      split at hg
      · simp only [Option.some.injEq] at hg; subst hg; exact trivial
      · simp only [Option.some.injEq] at hg; subst hg; exact trivial
  have kbox : ∀ id b, ω b = .box id → ω' b = .box id ∧ w'.heap[b]? = w.heap[b]? := by
    intro id b hbx
    have hlt := hrel.owned.lt (b := b) (by simp [hbx])
    have hi := hboxI b id hbx
    exact ⟨by rw [hold b hlt hi, hbx]; rfl, hblk b hlt hi⟩
  have kback : ∀ h ∈ hs, ∀ es', h.post = some es' → Rep w' ω' (fun q o => o = .tok h.t (h.p.toList ++ q)) (.sl h.k es') (vals h) := by
    intro h hh es' he
    refine (hkept h hh es' he).frame fun b q _ hq => ⟨?_, rfl⟩
    simp only [Tag.R] at hq
    rw [hnew b (by rw [hq]; simp), hq]
    simp only [qe6]
    rw [if_pos (by simp [gTok]), qkq hok hh]
  have hsat : ∀ l y, Sat w ω τ l y → Sat w' ω' τ' (qb9 hs t0 tS kS esS l) y := by
    intro l y hs'
    have plain : ∀ g k es, g.mentH hs = false → Sat w ω τ (.sl g k es) y → Sat w' ω' τ' (Leaf.re (qaY t0) (fun _ => true) (.sl g k es)) y := by
      intro g k es hm hsl
      simp only [Leaf.re]
      cases hg : qaY t0 g with
      | none => exact trivial
      | some g' => exact ⟨hsl.1.frame fun b q hlt hq => keep g g' b q hm hg hlt hq, khdr g g' _ hg hsl.2⟩
    cases l with
    | und => exact trivial
    | v x => exact hs'
    | sb c => exact hs'
    | ptr id off =>
      obtain ⟨b, h1, h2⟩ := hs'
      exact ⟨b, (kbox id b h1).1, h2⟩
    | clo f ids =>
      obtain ⟨bs, e, hn, hi⟩ := hs'
      simp only [qb9, Leaf.mentH0, Bool.false_eq_true, if_false, Leaf.re]
      split
      · refine ⟨bs, e, hn, fun i id hid => ?_⟩
        obtain ⟨b, h1, h2⟩ := hi i id hid
        exact ⟨b, h1, (kbox id b h2).1⟩
      · exact trivial
    | rp ds off =>
      obtain ⟨b, e, hr⟩ := hs'
      exact ⟨b, e, hr.frame fun b q hlt hq => keep .free .free b q rfl rfl hlt hq⟩
    | fd d => exact Rep.frame hs' fun b q hlt hq => keep .free .free b q rfl rfl hlt hq
    | sn t i j k es m =>
      simp only [qb9]
      by_cases hm : Leaf.mentH0 hs (.sn t i j k es m) = true
      · rw [if_pos hm]; exact trivial
      · rw [if_neg hm]
        simp only [Bool.not_eq_true] at hm
        replace hm : tokH hs t = false := hm
        simp only [Leaf.re]
        split
        · rename_i t' hg
          split
          · rename_i ht
            subst ht
            obtain ⟨u0, hu0, h1, hmm⟩ := hs'
            refine ⟨u0, hu0, h1.frame fun c q hc hq => keep (.own t') _ c _ hm hg hc hq, fun hh0 => ?_⟩
            obtain ⟨kT, b, off, len, cap, arr, ty, fr, h2, h5, h3, h4⟩ := hmm hh0
            have hlt : b < w.heap.size := (Array.getElem?_eq_some_iff.1 h3).1
            have hk := keep (.own t') _ b [] hm hg hlt h5
            exact ⟨kT, b, off, len, cap, arr, ty, fr, khdr _ _ _ hg h2, hk.1, hk.2.trans h3, h4⟩
          · exact trivial
        · exact trivial
    | np t vs =>
      simp only [qb9, Leaf.mentH0, if_true]
      exact trivial
    | ep g k es i j =>
      simp only [qb9]
      by_cases hm : Leaf.mentH0 hs (.ep g k es i j) = true
      · rw [if_pos hm]; exact trivial
      · rw [if_neg hm]
        simp only [Bool.not_eq_true] at hm
        replace hm : g.mentH hs = false := hm
        obtain ⟨b, off, cap, e, hi, hr, hh⟩ := hs'
        simp only [Leaf.re]
        cases hg : qaY t0 g with
        | none => exact trivial
        | some g' => exact ⟨b, off, cap, e, hi, hr.frame fun b q hlt hq => keep g g' b q hm hg hlt hq, khdr g g' _ hg hh⟩
    | sl g k es =>
      cases g with
      | free => exact plain .free k es rfl hs'
      | ro s =>
        simp only [qb9]
        by_cases hm : Leaf.mentH0 hs (.sl (.ro s) k es) = true
        · rw [if_pos hm]; exact trivial
        · rw [if_neg hm]
          simp only [Bool.not_eq_true] at hm
          exact plain (.ro s) k es hm hs'
      | own s =>
        simp only [qb9]
        cases hf : qdo s hs with
        | none => exact plain (.own s) k es (qkr hf) hs'
        | some h =>
          obtain ⟨hh, rfl⟩ := qks hf
          simp only
          have hv := hval h hh
          have hdr : τ h.t = (k, y) := hs'.2
          split
          · -- the whole tree, and it stands there still
            rename_i es' hp he
            have e1 := hv.root hp
            rw [hdr] at e1
            simp only [Prod.mk.injEq] at e1
            obtain ⟨rfl, e2⟩ := e1
            have hr := kback h hh es' he
            rw [hp, ← e2] at hr
            exact ⟨hr, by simp only [Tag.hdr]; rw [hτ h hh, hdr]⟩
          · exact trivial
          · -- parts of it
            rename_i p hp
            split
            · rename_i htS
              obtain ⟨es0, y0, ds, a0, hs0, hds, hdl, rfl, hall⟩ := hsub.ex h hh p hp htS
              have hdr0 : τ tS = (kS, y0) := hs0.2
              rw [← htS, hdr] at hdr0
              simp only [Prod.mk.injEq] at hdr0
              obtain ⟨rfl, rfl⟩ := hdr0
              obtain ⟨hr0, _⟩ := hs0
              have hlen : (es0.set a0 (qbp hs ds)).length = es0.length := List.length_set
              have ha0 : a0 < es0.length := (List.getElem?_eq_some_iff.1 hds).1
              refine ⟨?_, by simp only [Tag.hdr]; rw [hτ h hh, hdr]⟩
              generalize hy : y = yy at hr0
              cases hr0 with
              | nil => simp at ha0
              | row R k es0 b0 off cap arr ty fr us hbk hR hcp hsz hk hu hd =>
                subst hy
                have hR0 : ω b0 = .tok h.t [] := by rw [htS]; exact hR
                have hnofit : ∀ x ∈ hs, x.fit tS [] = none := by
                  intro x hx
                  unfold HL.fit
                  split
                  · rename_i ext
                    cases hxp : x.p with
                    | some q => simp
                    | none =>
                      exfalso
                      have hne : HL.apart h x = true ∨ HL.apart x h = true ∨ h = x := by
                        rcases qkm hok h hh x hx with e | e | e
                        · exact .inr (.inr e)
                        · exact .inl e
                        · exact .inr (.inl e)
                      have hap : ∀ y z : HL, y.t = z.t → (y.p = none ∨ z.p = none) → HL.apart y z = true → False := by
                        intro y z e1 e2 e3
                        simp only [HL.apart, e1, Bool.and_eq_true, Bool.or_eq_true, bne_self_eq_false, Bool.false_eq_true, false_or] at e3
                        rcases e2 with e2 | e2
                        · simp [e2] at e3
                        · rw [e2] at e3
                          cases hyp : y.p <;> simp [hyp] at e3
                      rcases hne with e | e | e
                      · exact hap h x (by rw [ext, htS]) (.inr hxp) e
                      · exact hap x h (by rw [ext, htS]) (.inl hxp) e
                      · rw [← e, hp] at hxp; cases hxp
                  · rfl
                have hfn : findH tS [] hs = none := by
                  cases e : findH tS [] hs with
                  | none => rfl
                  | some z =>
                    obtain ⟨g, q'⟩ := z
                    obtain ⟨x, hx, hxf, _⟩ := qe5 e
                    rw [hnofit x hx] at hxf; cases hxf
                have hb0lt : b0 < w.heap.size := (Array.getElem?_eq_some_iff.1 hbk).1
                have hb0i : qaB hs ω b0 = .imm := htok b0 tS [] hR hfn
                have hrangeS : ¬ (t0 ≤ tS ∧ tS < t0 + 10000) := by rw [← htS]; exact hrange h hh
                have hown0 : ∀ b q, b < w.heap.size → ω b = .tok tS q → findH tS q hs = none → ω' b = .tok tS q ∧ w'.heap[b]? = w.heap[b]? := by
                  intro b q hlt hq hn
                  have hi := htok b tS q hq hn
                  refine ⟨?_, hblk b hlt hi⟩
                  rw [hold b hlt hi, hq]
                  simp only [qbx]
                  rw [if_neg hrangeS]
                have hold' : ∀ x y d, qao es0 x y = some d → (∀ z ∈ hs, z.p ≠ some (x, y)) → Rep w' ω' (fun q => (Tag.own tS).R ((x, y) :: q)) d (us x y) := by
                  intro x y d hc hz
                  refine (hd x y d hc).frame fun b q hlt hq => ?_
                  refine hown0 b _ hlt hq ?_
                  cases e : findH tS ((x, y) :: q) hs with
                  | none => rfl
                  | some r =>
                    obtain ⟨g, q'⟩ := r
                    obtain ⟨z, hz1, hzf, _⟩ := qe5 e
                    obtain ⟨e1, e2⟩ := qko hzf
                    exfalso
                    cases hzp : z.p with
                    | none =>
                      have := hnofit z hz1
                      unfold HL.fit at this
                      rw [if_pos e1, hzp] at this
                      simp at this
                    | some r =>
                      rw [hzp] at e2
                      simp only [Option.toList_some, List.cons_append, List.nil_append, List.cons.injEq] at e2
                      exact hz z hz1 (by rw [hzp, ← e2.1])
                have key : ∀ x y d, qao (es0.set a0 (qbp hs ds)) x y = some d → Rep w' ω' (fun q => (Tag.own tS).R ((x, y) :: q)) d (us x y) := by
                  intro x y d hc
                  by_cases hx : x = a0
                  · subst hx
                    have hc2 : (qbp hs ds)[y]? = some d := by
                      simpa [qao, List.getElem?_set, ha0] using hc
                    rcases qhQ hc2 with ⟨z, hz, a1, es', h1, h2, rfl⟩ | ⟨h1, h2⟩
                    · obtain ⟨e1, e2, _⟩ := hall z hz _ h1
                      have e2 : a1 = x := e2
                      subst e2
                      obtain ⟨kT, b1, off1, len1, cap1, arr1, ty1, fr1, g1, g2, g3, g4⟩ := (hval z hz).cell _ _ h1
                      rw [e1, ← htS, hdr] at g1
                      simp only [Prod.mk.injEq, Value.slice.injEq, Option.some.injEq, Addr.mk.injEq] at g1
                      obtain ⟨rfl, ⟨rfl, rfl, _⟩, _, _⟩ := g1
                      rw [hbk] at g3
                      simp only [Option.some.injEq, Obj.cells.injEq] at g3
                      obtain ⟨rfl, _, _⟩ := g3
                      have hyd : y < ds.length := by
                        have := (List.getElem?_eq_some_iff.1 hc2).1
                        rwa [qe7] at this
                      have hcell : qao es0 a1 y = some ds[y] := by simp [qao, hds, hyd]
                      have hval2 : us a1 y = vals z := by
                        have := hu a1 y _ hcell
                        rw [g4] at this
                        exact (Option.some.inj this).symm
                      rw [hval2]
                      have hr := kback z hz es' h2
                      rw [h1, e1] at hr
                      exact hr
                    · have hcell : qao es0 x y = some d := by simp [qao, hds, h1]
                      refine hold' x y d hcell fun z hz hzp => ?_
                      obtain ⟨_, _, es', he⟩ := hall z hz _ hzp
                      exact h2 z hz x es' hzp he
                  · have hcell : qao es0 x y = some d := by
                      simp only [qao, List.getElem?_set] at hc
                      rw [if_neg (by omega)] at hc
                      exact hc
                    refine hold' x y d hcell fun z hz hzp => ?_
                    obtain ⟨_, e2, _⟩ := hall z hz _ hzp
                    exact hx e2
                have hb1 := hown0 b0 [] hb0lt hR hfn
                have := Rep.row (w := w') (ω := ω') (Tag.own tS).R k (es0.set a0 (qbp hs ds)) b0 off cap arr ty fr us (hb1.2.trans hbk) hb1.1 (by rw [hlen]; exact hcp) hsz
                  (fun e he => by
                    rcases List.mem_or_eq_of_mem_set he with h9 | rfl
                    · exact hk e h9
                    · rw [qe7]; exact hdl)
                  (fun x y d hc => by
                    have hxl : x < es0.length ∧ y < k := by
                      have hk' : ∀ e ∈ es0.set a0 (qbp hs ds), e.length = k := fun e he => by
                        rcases List.mem_or_eq_of_mem_set he with h9 | rfl
                        · exact hk e h9
                        · rw [qe7]; exact hdl
                      have h9 : x < (es0.set a0 (qbp hs ds)).length ∧ y < k := by
                        unfold qao at hc
                        cases e9 : (es0.set a0 (qbp hs ds))[x]? with
                        | none => simp [e9] at hc
                        | some row =>
                          simp only [e9, Option.bind_some] at hc
                          have hm := hk' row (List.mem_of_getElem? e9)
                          exact ⟨(List.getElem?_eq_some_iff.1 e9).1, by rw [← hm]; exact (List.getElem?_eq_some_iff.1 hc).1⟩
                      rw [hlen] at h9
                      exact h9
                    have hrow : (es0[x]'hxl.1).length = k := hk _ (List.getElem_mem hxl.1)
                    exact hu x y ((es0[x]'hxl.1)[y]'(by omega)) (by simp [qao, hxl.1, hrow, hxl.2]))
                  key
                rw [hlen] at this
                rw [htS]
                exact this
            · exact trivial
  have cell : ∀ (n : Nat) (d : D) (u : Value), n < 10000 → hdrV rs v n = u → (∀ k es, d = .sl k es → hdrK rs n = k) → Rep w' ωc (Tag.own n).R d u → Sat w' ω' τ' (d.resLeaf (t0 + n)) u := by
    intro n d u hn hv hk hr
    cases d with
    | v x =>
      have e : u = x := by cases hr; rfl
      subst e
      unfold D.resLeaf
      split
      · rename_i h; cases h; exact rfl
      · rename_i h; cases h; exact rfl
      · rename_i h; cases h
      · exact trivial
      · exact trivial
    | ptr ds => exact trivial
    | cl g caps => exact trivial
    | sl k es =>
      refine ⟨hr.frame fun b q hlt hq => ⟨?_, rfl⟩, ?_⟩
      · simp only [Tag.R] at hq ⊢
        rw [hnew b (by rw [hq]; simp), hq]
        simp only [qe6]
        rw [if_neg (by simp only [giv]; omega)]
      · simp only [Tag.hdr, τ']
        rw [if_pos (by omega), show t0 + n - t0 = n by omega, hv, hk k es rfl]
  have cellA : ∀ (r : Nat) (ad : AD) (y : Value), r < 100 → (∀ ds, ad = .agg ds → ds.length < 100) → rs[r]? = some ad → (∀ j, j < 100 → hdrV rs v (100 * r + j) = y.cells.getD j undef) → qcM w' ωc r ad y → SatA (Sat w' ω' τ') (ad.res (t0 + 100 * r)) y := by
    intro r ad y hr hds hrs hv hcr
    have hkk : ∀ j, j < 100 → hdrK rs (100 * r + j) = (match AD.cell j ad with | some (.sl k _) => k | _ => 0) := by
      intro j hj
      unfold hdrK
      rw [show (100 * r + j) / 100 = r by omega, show (100 * r + j) % 100 = j by omega, hrs]
      rfl
    cases ad with
    | one d =>
      have h1 := hcr.oneCell
      have h2 := hv 0 (by omega)
      rw [qfC h1] at h2
      have := cell (100 * r) d y (by omega) (by simpa using h2) (fun k es e => by
        have := hkk 0 (by omega)
        rw [Nat.add_zero] at this
        rw [this, e]; rfl) hcr
      exact this
    | agg ds =>
      obtain ⟨vs, rfl, hn, hj⟩ := hcr
      refine ⟨vs, rfl, by rw [qhL]; exact hn, fun j l hl => ?_⟩
      rw [qhK, Option.map_eq_some_iff] at hl
      obtain ⟨d, hd, rfl⟩ := hl
      obtain ⟨u, hu, hru⟩ := hj j d hd
      have hjl : j < 100 := by
        have := (List.getElem?_eq_some_iff.1 hd).1
        have := hds ds rfl
        omega
      refine ⟨u, hu, ?_⟩
      have := cell (100 * r + j) d u (by omega) (by rw [hv j hjl]; simp [Value.cells, Array.getD_eq_getD_getElem?, hu]) (fun k es e => by
        rw [hkk j hjl]
        simp only [AD.cell, hd, e]) hru
      rw [show t0 + 100 * r + (0 + j) = t0 + (100 * r + j) by omega]
      exact this
  simp only [qc2, Bool.and_eq_true, decide_eq_true_eq] at hfit
  have hds : ∀ (r : Nat) (ad : AD), rs[r]? = some ad → ∀ ds, ad = .agg ds → ds.length < 100 := by
    intro r ad hr ds e
    have := List.all_eq_true.1 hfit.2 ad (List.mem_of_getElem? hr)
    subst e
    simpa using this
  have hmine : ∀ b, ω b ≠ .imm → w0.mine b := fun b h => (hrel.owned b h).1
  have hgm : ∀ b, qaB hs ω b ≠ .imm → ω b ≠ .imm := fun b h e => h (himm b e)
  refine ⟨ω', τ', hrel.turn _ hsat ?_ ?_ (fun id b hbx => kbox id b hbx) ?_ (fun s hs => by simp only [τ']; rw [if_neg (by omega)]), ?_⟩
  · refine ⟨hb.os.trans hrel.below.os, hb.tape.trans hrel.below.tape, hb.output.trans hrel.below.output, Nat.le_trans hrel.below.size hb.size, fun k hk hg => ?_, Nat.le_trans hrel.below.drawn hb.drawn⟩
    have hk2 : k < w.heap.size := Nat.lt_of_lt_of_le hk hrel.below.size
    have hi : qaB hs ω k = .imm := by
      cases e : qaB hs ω k with
      | imm => rfl
      | _ =>
        have := hmine k (hgm k (by rw [e]; simp))
        rcases this with h | h
        · omega
        · exact absurd h hg
    exact (hblk k hk2 hi).trans (hrel.below.block k hk hg)
  · intro b hbi
    by_cases hc : b < w.heap.size ∧ qaB hs ω b = .imm
    · rw [hold b hc.1 hc.2] at hbi
      have h2 : ω b ≠ .imm := fun e => by rw [e] at hbi; exact hbi rfl
      obtain ⟨h3, arr, ty, h4⟩ := hrel.owned b h2
      exact ⟨h3, arr, ty, (hblk b hc.1 hc.2).trans h4⟩
    · have h2 : ωc b ≠ .imm := fun e => by
        simp only [ω'] at hbi
        rw [if_neg hc, e] at hbi
        exact hbi rfl
      obtain ⟨_, arr, ty, h4⟩ := hc2 b h2
      refine ⟨?_, arr, ty, h4⟩
      rcases Nat.lt_or_ge b w.heap.size with hlt | hge
      · exact hmine b (hgm b fun e => hc ⟨hlt, e⟩)
      · exact .inl (by have := hrel.below.size; omega)
  · intro id b hbx
    by_cases hc : b < w.heap.size ∧ qaB hs ω b = .imm
    · rw [hold b hc.1 hc.2] at hbx
      cases e : ω b with
      | imm => rw [e] at hbx; cases hbx
      | box i => rw [e] at hbx; exact hbx
      | tok s q => rw [e] at hbx; simp only [qbx] at hbx; split at hbx <;> cases hbx
    · simp only [ω'] at hbx
      rw [if_neg hc] at hbx
      cases e : ωc b with
      | imm => rw [e] at hbx; cases hbx
      | box i => rw [e] at hbx; cases hbx
      | tok s q =>
        rw [e] at hbx
        simp only [qe6] at hbx
        split at hbx
        · split at hbx <;> cases hbx
        · cases hbx
  · cases rs with
    | nil =>
      obtain ⟨vs, rfl, hn, _⟩ := hc3
      exact ⟨vs, rfl, hn, fun i a ha => by simp [qb8] at ha⟩
    | cons ad rest =>
      cases rest with
      | nil =>
        have := cellA 0 ad v (by omega) (hds 0 ad rfl) rfl (fun j hj => by
          unfold hdrV
          simp only [Nat.mul_zero, Nat.zero_add]
          rw [Nat.mod_eq_of_lt hj]) hc3
        exact this
      | cons ad2 rest =>
        obtain ⟨vs, rfl, hn, hv⟩ := hc3
        refine ⟨vs, rfl, by rw [qhN]; exact hn, fun i a ha => ?_⟩
        rw [qhM, Option.map_eq_some_iff] at ha
        obtain ⟨ad', h1, rfl⟩ := ha
        obtain ⟨y, hy, hcy⟩ := hv i ad' h1
        have hil : i < 100 := by
          have := (List.getElem?_eq_some_iff.1 h1).1
          omega
        refine ⟨y, hy, ?_⟩
        have := cellA i ad' y hil (hds i ad' h1) h1 (fun j hj => by
          unfold hdrV
          simp only
          rw [show (100 * i + j) / 100 = i by omega, show (100 * i + j) % 100 = j by omega]
          simp [Array.getD_eq_getD_getElem?, hy]) hcy
        rw [Nat.zero_add]
        exact this
end Go.Sx
namespace Go.Sx
open Go.RowKit
theorem qkt {w : World} {ω : Own} {τ : Nat → Nat × Value} {hs : List HL} {l : Leaf} {d : D} {y : Value} (h : l.argD0 = some d) (hm : l.mentH0 hs = false) (hs' : Sat w ω τ l y) : Rep w (qaB hs ω) Tag.free.R d y := by
  have himm : ∀ b, ω b = .imm → qaB hs ω b = .imm := fun b h => by simp only [qaB, h]
  have htok : ∀ b s q, ω b = .tok s q → tokH hs s = false → qaB hs ω b = .imm := fun b s q h h2 => by simp only [qaB, h, qhP h2]
  have tag : ∀ (g : Tag) (b : Nat) (q : List (Nat × Nat)), g.mentH hs = false → g.R q (ω b) → qaB hs ω b = .imm := by
    intro g b q hg hq
    cases g with
    | free => exact himm b hq
    | own s => exact htok b s q hq hg
    | ro s =>
      rcases hq with h | ⟨q', h⟩
      · exact himm b h
      · exact htok b s q' h hg
  cases l with
  | und => cases h
  | v x =>
    simp only [Leaf.argD0] at h
    split at h
    · simp only [Option.some.injEq] at h; subst h
      have : y = x := hs'
      subst this
      exact .v _ _ ‹_›
    · cases h
  | sb c =>
    simp only [Leaf.argD0, Option.some.injEq] at h; subst h
    have : y = .bool c := hs'
    subst this
    exact .v _ _ rfl
  | sl t k es => simp only [Leaf.argD0, Option.some.injEq] at h; subst h; exact hs'.1.frame fun b q _ hq => ⟨tag t b q hm hq, rfl⟩
  | ptr => cases h
  | ep => cases h
  | clo => cases h
  | np => cases h
  | rp ds off =>
    simp only [Leaf.argD0] at h
    split at h
    · rename_i ho
      subst ho
      simp only [Option.some.injEq] at h; subst h
      obtain ⟨b, rfl, hr⟩ := hs'
      exact hr.frame fun b q _ hq => ⟨himm b hq, rfl⟩
    · cases h
  | fd d' => simp only [Leaf.argD0, Option.some.injEq] at h; subst h; exact Rep.frame hs' fun b q _ hq => ⟨himm b hq, rfl⟩
  | sn t i j k es m =>
    obtain ⟨u, hu, hr, _⟩ := hs'
    cases m with
    | at_ x z => cases h
    | here => simp only [Leaf.argD0, Option.some.injEq] at h; subst h; have : y = u := hu; subst this; exact hr.frame fun b q _ hq => ⟨htok b t _ hq hm, rfl⟩
    | away => simp only [Leaf.argD0, Option.some.injEq] at h; subst h; have : y = u := hu; subst this; exact hr.frame fun b q _ hq => ⟨htok b t _ hq hm, rfl⟩
theorem qku {w : World} {ω : Own} {τ : Nat → Nat × Value} {bs : Boxes} {hs : List HL} (hb : qdn w ω τ bs) {id b : Nat} {d : D} (h : boxD bs id = some d) (hm : (match qaz id bs with | some ls => ls.any (Leaf.mentH0 hs) | none => true) = false) (ho : ω b = .box id) :
    Rep w (qaB hs ω) Tag.free.R d (ptrTo b) := by
  unfold boxD at h
  cases e : qaz id bs with
  | none => simp [e] at h
  | some ls =>
    rw [e] at hm
    simp only [List.any_eq_false, Bool.not_eq_true] at hm
    simp only [e, Option.bind_some, Option.map_eq_some_iff] at h
    obtain ⟨ds, h1, rfl⟩ := h
    obtain ⟨b', arr, ty, hb', hu, hh, hs'⟩ := hb id ls e
    have := hu b ho
    subst this
    obtain ⟨h2, h3⟩ := qbW h1
    have cell : ∀ j d, ds[j]? = some d → arr[j]? = some (arr.getD j undef) ∧ Rep w (qaB hs ω) Tag.free.R d (arr.getD j undef) := by
      intro j d hd
      obtain ⟨l, hl, hl2⟩ := h3 j d hd
      obtain ⟨u, hu1, hu2⟩ := hs'.2 j l hl
      have e2 : arr.getD j undef = u := by simp [Array.getD_eq_getD_getElem?, hu1]
      rw [e2]
      exact ⟨hu1, qkt hl2 (hm l (List.mem_of_getElem? hl)) hu2⟩
    exact Rep.ptr _ ds b arr ty (0, 0) (fun j => arr.getD j undef) hh (by show qaB hs ω b = .imm; simp only [qaB, ho]) (by have := hs'.1; omega) (fun j d hd => (cell j d hd).1) (fun j d hd => (cell j d hd).2.frame fun _ _ _ h => ⟨h, rfl⟩)
theorem qn2 {w : World} {ω : Own} {τ : Nat → Nat × Value} {bs : Boxes} {hs : List HL} (hb : qdn w ω τ bs) {l : Leaf} {d : D} {y : Value} (h : l.argD bs = some d) (hm : l.mentH bs hs = false) (hs' : Sat w ω τ l y) :
    Rep w (qaB hs ω) Tag.free.R d y := by
  unfold Leaf.argD at h
  split at h
  · rename_i id off
    split at h
    · rename_i ho
      subst ho
      obtain ⟨b, h1, rfl⟩ := hs'
      exact qku hb h hm h1
    · cases h
  · rename_i g ids
    rw [Option.map_eq_some_iff] at h
    obtain ⟨ds, h1, rfl⟩ := h
    obtain ⟨bl, rfl, hn, hi⟩ := hs'
    obtain ⟨h2, h3⟩ := qbW h1
    simp only [Leaf.mentH, List.any_eq_false, Bool.not_eq_true] at hm
    have cell : ∀ j d, ds[j]? = some d → (bl.map ptrTo).toArray[j]? = some ((bl.map ptrTo).toArray.getD j undef) ∧ Rep w (qaB hs ω) Tag.free.R d ((bl.map ptrTo).toArray.getD j undef) := by
      intro j d hd
      obtain ⟨id, hid, hd2⟩ := h3 j d hd
      obtain ⟨b, hb1, hb2⟩ := hi j id hid
      have e1 : (bl.map ptrTo).toArray[j]? = some (ptrTo b) := by simp [hb1]
      have e2 : (bl.map ptrTo).toArray.getD j undef = ptrTo b := by rw [Array.getD_eq_getD_getElem?, e1]; rfl
      rw [e2]
      exact ⟨e1, qku hb hd2 (hm id (List.mem_of_getElem? hid)) hb2⟩
    exact Rep.cl _ g ds _ (fun j => (bl.map ptrTo).toArray.getD j undef) (by simp; omega) (fun j d hd => (cell j d hd).1) (fun j d hd => (cell j d hd).2.frame fun _ _ _ h => ⟨h, rfl⟩)
  · rename_i hn1 hn2
    have hm0 : l.mentH0 hs = false := by
      unfold Leaf.mentH at hm
      split at hm
      · exact absurd rfl (hn1 _ _)
      · exact absurd rfl (hn2 _ _)
      · exact hm
    exact qkt h hm0 hs'
structure CellH (w : World) (ω : Own) (τ : Nat → Nat × Value) (hs : List HL) (i j : Nat) (c : GC) (hx : List HL) (y : Value) : Prop where
  gc : GcOk w (qaB hs ω) (gTok i j) c y
  at_ : ∀ h ∈ hx, h.i = i ∧ h.j = j ∧ HandAt w ω τ h y ∧ c = .gv h.k h.es h.post
  one : y.oneCell' = true
theorem qhR {w : World} {ω : Own} {τ : Nat → Nat × Value} {bs : Boxes} {hs : List HL} (hok : qby hs = true) (hb : qdn w ω τ bs) {i j : Nat} {m : Mk} {l : Leaf} {c : GC} {hx : List HL} {rx : List Leaf} {y : Value}
    (h : cellG bs i j m l = some (c, hx, rx)) (hsub : ∀ x ∈ hx, x ∈ hs) (hro : ∀ x ∈ rx, x.mentH bs hs = false) (hs' : Sat w ω τ l y) : CellH w ω τ hs i j c hx y := by
  unfold cellG at h
  split at h
  · rw [Option.map_eq_some_iff] at h
    obtain ⟨d, h1, h⟩ := h
    simp only [Prod.mk.injEq] at h
    obtain ⟨rfl, rfl, rfl⟩ := h
    have := qn2 hb h1 (hro _ (by simp)) hs'
    exact ⟨this, fun x hx => by simp at hx, this.oneCell⟩
  · rename_i post t k es
    simp only [Option.some.injEq, Prod.mk.injEq] at h
    obtain ⟨rfl, rfl, rfl⟩ := h
    have hmem := hsub _ (List.mem_cons_self)
    refine ⟨hs'.1.frame fun b q _ hq => ⟨?_, rfl⟩, fun x hx => ?_, hs'.1.oneCell⟩
    · simp only [Tag.R] at hq ⊢
      simp only [qaB, hq]
      have := qhO (t := t) (q := q) (q' := q) hok hmem (qkp ⟨i, j, t, none, k, es, post⟩ q)
      simp only [this]
    · simp only [List.mem_singleton] at hx
      subst hx
      exact ⟨rfl, rfl, ⟨hs'.1.frame fun b q _ hq => ⟨hq, rfl⟩, fun _ => hs'.2, fun a b e => by cases e⟩, rfl⟩
  · rename_i post t a b k es
    simp only [Option.some.injEq, Prod.mk.injEq] at h
    obtain ⟨rfl, rfl, rfl⟩ := h
    have hmem := hsub _ (List.mem_cons_self)
    obtain ⟨u0, hu0, hs'⟩ := hs'
    have : y = u0 := hu0
    subst this
    refine ⟨hs'.1.frame fun c q _ hq => ⟨?_, rfl⟩, fun x hx => ?_, hs'.1.oneCell⟩
    · simp only [Tag.R] at hq ⊢
      simp only [qaB, hq]
      have := qhO (t := t) (q := (a, b) :: q) (q' := q) hok hmem (qkp ⟨i, j, t, some (a, b), k, es, post⟩ q)
      simp only [this]
    · simp only [List.mem_singleton] at hx
      subst hx
      refine ⟨rfl, rfl, ⟨hs'.1.frame fun b q _ hq => ⟨hq, rfl⟩, fun e => (by cases e), fun a' b' e => ?_⟩, rfl⟩
      simp only [Option.some.injEq, Prod.mk.injEq] at e
      obtain ⟨rfl, rfl⟩ := e
      exact hs'.2 rfl
  · cases h
theorem qkv {bs : Boxes} {i : Nat} : ∀ {ms : List Mk} {ls : List Leaf} {j : Nat} {cs : List GC} {hx : List HL} {rx : List Leaf}, qbM bs i j ms ls = some (cs, hx, rx) → cs.length = ls.length
  | [], [], j, cs, hx, rx, h => by simp only [qbM, Option.some.injEq, Prod.mk.injEq] at h; obtain ⟨rfl, _, _⟩ := h; rfl
  | m :: ms, l :: ls, j, cs, hx, rx, h => by
    simp only [qbM] at h
    split at h
    · rename_i c h1 r1 cs1 hs1 rs1 e1 e2
      simp only [Option.some.injEq, Prod.mk.injEq] at h
      obtain ⟨rfl, _, _⟩ := h
      simp [qkv e2]
    · cases h
  | [], _ :: _, j, cs, hx, rx, h => by simp [qbM] at h
  | _ :: _, [], j, cs, hx, rx, h => by simp [qbM] at h
theorem qkw {bs : Boxes} {i : Nat} : ∀ {ms : List Mk} {ls : List Leaf} {j : Nat} {cs : List GC} {hx : List HL} {rx : List Leaf}, qbM bs i j ms ls = some (cs, hx, rx) →
    (∀ (x : Nat) (c : GC), cs[x]? = some c → ∃ l m h1 r1, ls[x]? = some l ∧ cellG bs i (j + x) m l = some (c, h1, r1) ∧ (∀ z ∈ h1, z ∈ hx) ∧ (∀ z ∈ r1, z ∈ rx)) ∧
    (∀ h ∈ hx, ∃ (x : Nat) (c : GC) (l : Leaf) (m : Mk) (h1 : List HL) (r1 : List Leaf), cs[x]? = some c ∧ ls[x]? = some l ∧ cellG bs i (j + x) m l = some (c, h1, r1) ∧ h ∈ h1 ∧ (∀ z ∈ h1, z ∈ hx) ∧ (∀ z ∈ r1, z ∈ rx))
  | [], [], j, cs, hx, rx, h => by
    simp only [qbM, Option.some.injEq, Prod.mk.injEq] at h
    obtain ⟨rfl, rfl, rfl⟩ := h
    exact ⟨fun x c hc => by simp at hc, fun h hh => by simp at hh⟩
  | m :: ms, l :: ls, j, cs, hx, rx, h => by
    simp only [qbM] at h
    split at h
    · rename_i c h1 r1 cs1 hs1 rs1 e1 e2
      simp only [Option.some.injEq, Prod.mk.injEq] at h
      obtain ⟨rfl, rfl, rfl⟩ := h
      obtain ⟨k1, k2⟩ := qkw e2
      refine ⟨fun x c' hc => ?_, fun z hz => ?_⟩
      · cases x with
        | zero =>
          simp only [List.getElem?_cons_zero, Option.some.injEq] at hc
          subst hc
          exact ⟨l, m, h1, r1, rfl, e1, fun z hz => List.mem_append_left _ hz, fun z hz => List.mem_append_left _ hz⟩
        | succ x =>
          obtain ⟨l', m', h2, r2, g1, g2, g3, g4⟩ := k1 x c' (by simpa using hc)
          exact ⟨l', m', h2, r2, by simpa using g1, by rw [show j + (x + 1) = j + 1 + x by omega]; exact g2, fun z hz => List.mem_append_right _ (g3 z hz), fun z hz => List.mem_append_right _ (g4 z hz)⟩
      · rcases List.mem_append.1 hz with hz | hz
        · exact ⟨0, c, l, m, h1, r1, rfl, rfl, e1, hz, fun z hz => List.mem_append_left _ hz, fun z hz => List.mem_append_left _ hz⟩
        · obtain ⟨x, c', l', m', h2, r2, g0, g1, g2, g5, g3, g4⟩ := k2 z hz
          exact ⟨x + 1, c', l', m', h2, r2, by simpa using g0, by simpa using g1, by rw [show j + (x + 1) = j + 1 + x by omega]; exact g2, g5, fun z hz => List.mem_append_right _ (g3 z hz), fun z hz => List.mem_append_right _ (g4 z hz)⟩
    · cases h
  | [], _ :: _, j, cs, hx, rx, h => by simp [qbM] at h
  | _ :: _, [], j, cs, hx, rx, h => by simp [qbM] at h
structure ArgH (w : World) (ω : Own) (τ : Nat → Nat × Value) (hs : List HL) (i : Nat) (ga : GA) (hx : List HL) (y : Value) : Prop where
  gaok : GaOk w (qaB hs ω) i ga y
  at_ : ∀ h ∈ hx, h.i = i ∧ HandAt w ω τ h (cellOf y h.j) ∧ ga.cell h.j = some (.gv h.k h.es h.post)
theorem qkx {w : World} {ω : Own} {τ : Nat → Nat × Value} {bs : Boxes} {hs : List HL} (hok : qby hs = true) (hb : qdn w ω τ bs) {i : Nat} {ms : List Mk} {p : PV} {ga : GA} {hx : List HL} {rx : List Leaf} {y : Value}
    (h : argG bs i ms p = some (ga, hx, rx)) (hsub : ∀ x ∈ hx, x ∈ hs) (hro : ∀ x ∈ rx, x.mentH bs hs = false) (hs' : SatP (Sat w ω τ) p y) : ArgH w ω τ hs i ga hx y := by
  unfold argG at h
  split at h
  · rename_i l
    split at h
    · rename_i m
      rw [Option.map_eq_some_iff] at h
      obtain ⟨⟨c, h1, r1⟩, e, h⟩ := h
      simp only [Prod.mk.injEq] at h
      obtain ⟨rfl, rfl, rfl⟩ := h
      have := qhR hok hb e hsub hro hs'
      refine ⟨this.gc, fun x hx => ?_⟩
      obtain ⟨e1, e2, e3, e4⟩ := this.at_ x hx
      have ey : cellOf y x.j = y := by rw [e2, cellOf, qfC this.one]; rfl
      rw [ey]
      exact ⟨e1, e3, by simp [GA.cell, e2, e4]⟩
    · cases h
  · rename_i ls
    rw [Option.map_eq_some_iff] at h
    obtain ⟨⟨cs, h1, r1⟩, e, h⟩ := h
    simp only [Prod.mk.injEq] at h
    obtain ⟨rfl, rfl, rfl⟩ := h
    obtain ⟨us, rfl, hn, hu⟩ := hs'
    obtain ⟨k1, k2⟩ := qkw e
    refine ⟨⟨us, rfl, by rw [qkv e]; exact hn, fun x c hc => ?_⟩, fun z hz => ?_⟩
    · obtain ⟨l, m, h2, r2, g1, g2, g3, g4⟩ := k1 x c hc
      obtain ⟨u, hu1, hu2⟩ := hu x l g1
      rw [Nat.zero_add] at g2
      exact ⟨u, hu1, (qhR hok hb g2 (fun z hz => hsub z (g3 z hz)) (fun z hz => hro z (g4 z hz)) hu2).gc⟩
    · obtain ⟨x, c, l, m, h2, r2, g0, g1, g2, g5, g3, g4⟩ := k2 z hz
      obtain ⟨u, hu1, hu2⟩ := hu x l g1
      rw [Nat.zero_add] at g2
      obtain ⟨e1, e2, e3, e4⟩ := (qhR hok hb g2 (fun z hz => hsub z (g3 z hz)) (fun z hz => hro z (g4 z hz)) hu2).at_ z g5
      refine ⟨e1, ?_, by simp only [GA.cell, e2, g0, e4]⟩
      have : cellOf (.agg us) z.j = u := by simp [cellOf, Value.cells, e2, Array.getD_eq_getD_getElem?, hu1]
      rw [this]
      exact e3
  · cases h
theorem qky {bs : Boxes} : ∀ {mss : List (List Mk)} {ps : List PV} {i : Nat} {gs : List GA} {hx : List HL} {rx : List Leaf}, argsG bs i mss ps = some (gs, hx, rx) → gs.length = ps.length ∧
    (∀ (x : Nat) (ga : GA), gs[x]? = some ga → ∃ p ms h1 r1, ps[x]? = some p ∧ argG bs (i + x) ms p = some (ga, h1, r1) ∧ (∀ z ∈ h1, z ∈ hx) ∧ (∀ z ∈ r1, z ∈ rx)) ∧
    (∀ h ∈ hx, ∃ (x : Nat) (ga : GA) (p : PV) (ms : List Mk) (h1 : List HL) (r1 : List Leaf), gs[x]? = some ga ∧ ps[x]? = some p ∧ argG bs (i + x) ms p = some (ga, h1, r1) ∧ h ∈ h1 ∧ (∀ z ∈ h1, z ∈ hx) ∧ (∀ z ∈ r1, z ∈ rx))
  | [], [], i, gs, hx, rx, h => by
    simp only [argsG, Option.some.injEq, Prod.mk.injEq] at h
    obtain ⟨rfl, rfl, rfl⟩ := h
    exact ⟨rfl, fun x c hc => by simp at hc, fun h hh => by simp at hh⟩
  | m :: ms, l :: ls, i, gs, hx, rx, h => by
    simp only [argsG] at h
    split at h
    · rename_i c h1 r1 cs1 hs1 rs1 e1 e2
      simp only [Option.some.injEq, Prod.mk.injEq] at h
      obtain ⟨rfl, rfl, rfl⟩ := h
      obtain ⟨k0, k1, k2⟩ := qky e2
      refine ⟨by simp [k0], fun x c' hc => ?_, fun z hz => ?_⟩
      · cases x with
        | zero =>
          simp only [List.getElem?_cons_zero, Option.some.injEq] at hc
          subst hc
          exact ⟨l, m, h1, r1, rfl, e1, fun z hz => List.mem_append_left _ hz, fun z hz => List.mem_append_left _ hz⟩
        | succ x =>
          obtain ⟨l', m', h2, r2, g1, g2, g3, g4⟩ := k1 x c' (by simpa using hc)
          exact ⟨l', m', h2, r2, by simpa using g1, by rw [show i + (x + 1) = i + 1 + x by omega]; exact g2, fun z hz => List.mem_append_right _ (g3 z hz), fun z hz => List.mem_append_right _ (g4 z hz)⟩
      · rcases List.mem_append.1 hz with hz | hz
        · exact ⟨0, c, l, m, h1, r1, rfl, rfl, e1, hz, fun z hz => List.mem_append_left _ hz, fun z hz => List.mem_append_left _ hz⟩
        · obtain ⟨x, c', l', m', h2, r2, g0, g1, g2, g5, g3, g4⟩ := k2 z hz
          exact ⟨x + 1, c', l', m', h2, r2, by simpa using g0, by simpa using g1, by rw [show i + (x + 1) = i + 1 + x by omega]; exact g2, g5, fun z hz => List.mem_append_right _ (g3 z hz), fun z hz => List.mem_append_right _ (g4 z hz)⟩
    · cases h
  | [], _ :: _, i, gs, hx, rx, h => by simp [argsG] at h
  | _ :: _, [], i, gs, hx, rx, h => by simp [argsG] at h
def qfL : List HL → Option (Nat × Nat)
  | [] => none
  | h :: r => match h.p with | some p => some (h.t, p.1) | none => qfL r
theorem qkz : ∀ {hs : List HL}, qfL hs = none → ∀ h ∈ hs, h.p = none
  | [], _, h, hh => by cases hh
  | x :: r, e, h, hh => by
    simp only [qfL] at e
    split at e
    · cases e
    · rename_i hp
      rcases List.mem_cons.1 hh with rfl | hh
      · exact hp
      · exact qkz e h hh
def qe8 (a : Nat) : List HL → List Prop
  | [] => []
  | h :: r => match h.p with | some p => (p.1 = a) :: qe8 a r | none => qe8 a r
theorem qhS {a : Nat} : ∀ {hs : List HL}, Obs (qe8 a hs) → ∀ h ∈ hs, ∀ p, h.p = some p → p.1 = a
  | [], _, h, hh, _, _ => by cases hh
  | x :: r, ho, h, hh, p, hp => by
    simp only [qe8] at ho
    split at ho
    · rename_i q hq
      rcases List.mem_cons.1 hh with rfl | hh
      · rw [hp] at hq
        rw [Option.some.inj hq]
        exact ho.1
      · exact qhS ho.2 h hh p hp
    · rename_i hq
      rcases List.mem_cons.1 hh with rfl | hh
      · rw [hp] at hq; cases hq
      · exact qhS ho h hh p hp
def qhT (st : St) (hs : List HL) (src : Nat) (ds : List D) : Option (Nat × Nat × List (List D) × List Prop) :=
  match qfL hs with
  | none => some (0, 0, [], [])
  | some (t, a) =>
    match (st.env.getD src .und).leaf with
    | some (.sl (.own s) k es) =>
      if s = t ∧ ds.length = k ∧ hs.all (fun h => match h.p with | some _ => h.t == t && h.post.isSome | none => true) = true then
        some (t, k, es.set a (qbp hs ds), (es[a]? = some ds) :: qe8 a hs)
      else none
    | _ => none
theorem qn3 {w0 : Base} {st : St} {a : Act} {w : World} {ω : Own} {τ : Nat → Nat × Value} (hrel : RelAt w0 st a w ω τ) {hs : List HL} {src : Nat} {ds : List D} {t k : Nat} {es : List (List D)} {obs : List Prop}
    (h : qhT st hs src ds = some (t, k, es, obs)) (ho : Obs obs) : SubAt w ω τ hs t k es := by
  unfold qhT at h
  split at h
  · rename_i hn
    exact ⟨fun x hx p hp _ => by rw [qkz hn x hx] at hp; cases hp⟩
  · rename_i t' a' hf
    split at h
    · rename_i s k' es' hl
      split at h
      · rename_i hc
        obtain ⟨rfl, hdl, hall⟩ := hc
        simp only [Option.some.injEq, Prod.mk.injEq] at h
        obtain ⟨rfl, rfl, rfl, rfl⟩ := h
        rw [List.all_eq_true] at hall
        refine ⟨fun x hx p hp _ => ?_⟩
        have hsl : ∃ y, Sat w ω τ (.sl (.own s) k' es') y := by
          rw [List.getD_eq_getElem?_getD] at hl
          cases e : st.env[src]? with
          | none => rw [e] at hl; simp [PV.leaf] at hl
          | some p =>
            rw [e] at hl
            obtain ⟨v, _, h2⟩ := hrel.env src p e
            exact ⟨v, PV.leaf_sat hl h2⟩
        obtain ⟨y, hy⟩ := hsl
        refine ⟨es', y, ds, a', hy, ho.1, hdl, rfl, fun z hz q hq => ?_⟩
        have h1 := hall z hz
        simp only [hq, Bool.and_eq_true, beq_iff_eq, Option.isSome_iff_exists] at h1
        exact ⟨h1.1, qhS ho.2 z hz q hq, h1.2⟩
      · cases h
    · cases h
def qhU (P : Program) (st : St) (d : Option Nat) (f : FuncId) (args : List Operand) (ans : List Ans) : Option (St × List Ans × List Prop) :=
  match ans with
  | .resG pat src ds rs :: r =>
    match argsG st.boxes 0 pat (args.map st.ev) with
    | some (gs, hs, ros) =>
      match qhT st hs src ds with
      | some (tS, kS, esS, obs) =>
        let t0 := 10000 * (d.getD 0 + 1)
        if qbk P f = true ∧ qc2 rs = true ∧ t0 + 10000 ≤ giv ∧ qby hs = true ∧ ros.all (fun l => !(l.mentH st.boxes hs)) = true ∧ hs.all (fun h => !(decide (t0 ≤ h.t) && decide (h.t < t0 + 10000))) = true then
          let st' := st.map (qb9 hs t0 tS kS esS)
          match d with
          | some d => some (⟨st'.env.set d (resPV t0 rs), st'.boxes⟩, r, RetG P f gs rs :: obs)
          | none => some (st', r, RetG P f gs rs :: obs)
        else none
      | none => none
    | none => none
  | _ => none
theorem qn4 {P : Program} {w0 : Base} {st st' : St} {a : Act} {w : World} {ω : Own} {τ : Nat → Nat × Value} {dst : Option Nat} {f : FuncId} {args : Array Operand} {ts : Array TypeId} {type : TypeId} {pos : String} {after : Array Edge} {guard : Option (Nat × Bool)} {ans ans' : List Ans} {obs : List Prop}
    (hrel : RelAt w0 st a w ω τ) (h : qhU P st dst f args.toList ans = some (st', ans', obs)) (ho : Obs obs) {K : Act → World → Prop} {Q : Exit → Act → World → Prop} (hK : ∀ a' w', Rel w0 st' a' w' → K a' w') :
    Oper.wp P ⟨dst, .call ⟨.value (.func f), args, ts⟩, type, pos, after, guard⟩ a w K Q := by
  unfold qhU at h
  split at h
  · rename_i pat src ds rs r
    split at h
    · rename_i gs hs ros hargs
      split at h
      · rename_i tS kS esS obs1 hsub
        simp only at h
        split at h
        · rename_i hc
          obtain ⟨hcan, hfit, htg, hok, hros, hrng⟩ := hc
          rw [List.all_eq_true] at hros hrng
          have hros' : ∀ l ∈ ros, l.mentH st.boxes hs = false := fun l hl => by simpa using hros l hl
          have hrng' : ∀ h ∈ hs, ¬ (10000 * (dst.getD 0 + 1) ≤ h.t ∧ h.t < 10000 * (dst.getD 0 + 1) + 10000) := fun h hh => by
            have := hrng h hh
            simp only [Bool.not_eq_true', Bool.and_eq_false_iff, decide_eq_false_iff_not] at this
            omega
          obtain ⟨hlen, k1, k2⟩ := qky hargs
          have hval : ∀ (x : Nat) (p : PV), (args.toList.map st.ev)[x]? = some p → ∃ v, (args.map a.eval)[x]? = some v ∧ SatP (Sat w ω τ) p v := by
            intro x p hp
            rw [List.getElem?_map, Option.map_eq_some_iff] at hp
            obtain ⟨o, h1, rfl⟩ := hp
            refine ⟨a.eval o, ?_, hrel.ev o⟩
            rw [Array.getElem?_map]
            rw [Array.getElem?_toList] at h1
            rw [h1]; rfl
          have hgas : GasOk w (qaB hs ω) gs (args.map a.eval) := by
            refine ⟨fun b hb => ?_, by simp [hlen], fun x ga hx => ?_⟩
            · have hω : ω b ≠ .imm := fun e => hb (by simp only [qaB, e])
              obtain ⟨_, arr, ty, h4⟩ := hrel.owned b hω
              refine ⟨?_, arr, ty, h4⟩
              simp only [qaB] at hb ⊢
              cases e : ω b with
              | imm => simp [e] at hb
              | box id => simp [e] at hb
              | tok t q =>
                simp only [e] at hb ⊢
                cases e2 : findH t q hs with
                | none => simp [e2] at hb
                | some z =>
                  obtain ⟨g, q'⟩ := z
                  obtain ⟨y, _, _, rfl⟩ := qe5 e2
                  exact ⟨_, q', rfl, by simp [gTok]⟩
            · obtain ⟨p, ms, h1, r1, g1, g2, g3, g4⟩ := k1 x ga hx
              obtain ⟨v, hv, hs2⟩ := hval x p g1
              rw [Nat.zero_add] at g2
              exact ⟨v, hv, (qkx hok hrel.boxes g2 g3 (fun z hz => hros' z (g4 z hz)) hs2).gaok⟩
          have hat : ∀ h ∈ hs, HandAt w ω τ h (cellOf ((args.map a.eval).getD h.i undef) h.j) ∧ ∃ ga, gs[h.i]? = some ga ∧ ga.cell h.j = some (.gv h.k h.es h.post) := by
            intro h hh
            obtain ⟨x, ga, p, ms, h1, r1, g0, g1, g2, g5, g3, g4⟩ := k2 h hh
            obtain ⟨v, hv, hs2⟩ := hval x p g1
            rw [Nat.zero_add] at g2
            obtain ⟨e1, e2, e3⟩ := (qkx hok hrel.boxes g2 g3 (fun z hz => hros' z (g4 z hz)) hs2).at_ h g5
            have ev : (args.map a.eval).getD h.i undef = v := by rw [e1, Array.getD_eq_getD_getElem?, hv]; rfl
            rw [ev]
            exact ⟨e2, ga, by rw [e1]; exact g0, e3⟩
          have hrun : (execOp a.eval ⟨dst, .call ⟨.value (.func f), args, ts⟩, type, pos, after, guard⟩).run P w = .ok (.enter f (args.map a.eval)) w := by
            unfold qbk at hcan
            split at hcan
            · rename_i fn hfn
              simp only [Bool.and_eq_true, Bool.not_eq_true', beq_eq_false_iff_ne, ne_eq] at hcan
              have hc2' : fn.body ≠ none := by intro e; rw [e] at hcan; simp at hcan
              simp [execOp, resolve, Act.eval, Deferred.ofValue, invoke, callFunc, hfn, hcan.1, hc2']
            · cases hcan
          have key : RetG P f gs rs → Obs obs1 → (∀ v w' ω' τ', RelAt w0 (st.map (qb9 hs (10000 * (dst.getD 0 + 1)) tS kS esS)) a w' ω' τ' → SatP (Sat w' ω' τ') (resPV (10000 * (dst.getD 0 + 1)) rs) v → K (a.put dst v) w') →
              Oper.wp P ⟨dst, .call ⟨.value (.func f), args, ts⟩, type, pos, after, guard⟩ a w K Q := by
            intro hret ho1 hK'
            unfold Oper.wp
            rw [hrun]
            simp only [Oper.upon]
            refine (hret w _ _ hgas).mono ?_
            rintro e w' ⟨v, rfl, hbel, ωc, c1, c2, c3, c4⟩
            obtain ⟨ω', τ', h1, h2⟩ := hrel.calledG (10000 * (dst.getD 0 + 1)) hok hfit htg hrng' hbel ωc c1 c2 c4 (fun h => cellOf ((args.map a.eval).getD h.i undef) h.j)
              (fun h hh es' he => by
                obtain ⟨_, ga, g1, g2⟩ := hat h hh
                rw [he] at g2
                exact c3 h.i h.j ga h.k h.es es' g1 g2)
              (fun h hh => (hat h hh).1) (qn3 hrel hsub ho1)
            exact hK' v w' ω' τ' h1 h2
          cases dst with
          | none =>
            simp only [Option.some.injEq, Prod.mk.injEq] at h
            obtain ⟨rfl, _, rfl⟩ := h
            exact key ho.1 ho.2 fun v w' ω' τ' h1 _ => hK _ _ ⟨ω', τ', h1⟩
          | some d =>
            simp only [Option.some.injEq, Prod.mk.injEq] at h
            obtain ⟨rfl, _, rfl⟩ := h
            exact key ho.1 ho.2 fun v w' ω' τ' h1 h2 => hK _ _ ⟨ω', τ', h1.put h2⟩
        · cases h
      · cases h
    · cases h
  · cases h
end Go.Sx
