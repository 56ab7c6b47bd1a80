/- OutsOnly, OutCells: what program and reference compute; the laws CellsIn, OutCells answer true. -/
import Derived.Test.YtialmplmfcahpaaGreatP9
import Derived.Test.YtialmplmfcahpaaGreatT7
import Derived.Test.YtialmplmfcahpaaGreatGO
set_option linter.unusedVariables false
set_option linter.unusedSimpArgs false
namespace Go.Proofs.YtialmplmfcahpaaGreat
open Go.Sx Go.RowKit
def qaS (g : Graph) (op : Int) : Option Node := if 0 ≤ op then g.nodes[op.toNat]? else none
def isOut (g : Graph) (x : Cell) : Bool := match qaS g x.op with | some n => n.kind == 8 | none => false
def qea (g : Graph) (xs : List Cell) : List Cell := xs.filter (isOut g)
theorem qeb {g : Graph} {a : Int} {w : Node} (h : qaS g a = some w) : 0 ≤ a ∧ a < (↑(g.nodes.map Node.e).length : Int) ∧ (g.nodes.map Node.e)[a.toNat]? = some w.e ∧ inR a 0 (↑(g.nodes.map Node.e).length - 1) = true := by
  unfold qaS at h
  split at h
  · have := (List.getElem?_eq_some_iff.1 h).1
    refine ⟨‹_›, by simp; omega, by simp [h], ?_⟩
    simp only [inR, List.length_map, decide_eq_true_eq]; omega
  · cases h
theorem ql1 {g : Graph} {a : Int} (h : qaS g a = none) : inR a 0 (↑(g.nodes.map Node.e).length - 1) = false := by
  unfold qaS at h
  simp only [inR, List.length_map, decide_eq_false_iff_not]
  split at h
  · rw [List.getElem?_eq_none_iff] at h; omega
  · omega
theorem qfq {g : Graph} {a : Int} {w : Node} (h : qaS g a = some w) : w ∈ g.nodes := by
  unfold qaS at h
  split at h
  · exact List.mem_of_getElem? h
  · cases h
theorem Graph.nodes_le {g : Graph} (h : g.sz ≤ 1048576) : g.nodes.length ≤ 1048576 := by simp only [Graph.sz, szS] at h; omega
theorem Graph.outs_le {g : Graph} (h : g.sz ≤ 1048576) {w : Node} (hw : w ∈ g.nodes) : w.outs.length ≤ 1048576 := by
  have := qcQ (sz := Node.sz) hw
  simp only [Graph.sz, szS] at h
  have h5 : w.outs.length ≤ w.sz := by simp only [Node.sz]; omega
  omega
theorem qgK {g : Graph} (h : g.sz ≤ 1048576) : inInt .i64 ((↑(g.nodes.map Node.e).length : Int) - 1) := by
  have := Graph.nodes_le h
  exact ⟨by simp; omega, by simp; omega⟩
theorem qwY (g : Graph) (op : Int) (hg : g.sz ≤ 1048576) : Ret Tryz.prog 153 [.agg g.e, .one (I op)] [.one (B (qaS g op).isSome)] := by
  cases h : qaS g op with
  | none => exact qlH _ _ _ _ _ ⟨qgK hg, qgr _ _ _ _ (ql1 h), trivial⟩
  | some w => exact qlH _ _ _ _ _ ⟨qgK hg, qgr _ _ _ _ (qeb h).2.2.2, trivial⟩
theorem qeO (g : Graph) (op : Int) (r : Bool) (h : (qaS g op).isSome = r) (hg : g.sz ≤ 1048576) : Ret Tryz.prog 153 [.agg g.e, .one (I op)] [.one (B r)] := h ▸ qwY g op hg
def qcE (g : Graph) (op : Int) : Node × Bool := match qaS g op with | some n => (n, true) | none => (⟨0, 0, 0, []⟩, false)
theorem qwZ (n : Int) : ∀ d ∈ eI n, ∃ x, d = .v x := by
  intro d hd
  simp only [eI, List.mem_cons, List.not_mem_nil, or_false] at hd
  subst hd; exact ⟨_, rfl⟩
theorem qw0 (g : Graph) (op : Int) (hg : g.sz ≤ 1048576) : Ret Tryz.prog 139 [.agg g.e, .one (I op)] [.agg (qcE g op).1.e, .one (B (qcE g op).2)] := by
  unfold qcE
  cases h : qaS g op with
  | none => exact qve _ _ _ _ _ ⟨qgK hg, qgq _ _ _ _ (ql1 h), rfl, trivial⟩
  | some w =>
    obtain ⟨h1, h2, h3, h4⟩ := qeb h
    have ho := Graph.outs_le hg (qfq h)
    exact qvf _ _ _ _ _ _ _ _ _ ⟨qgK hg, qgq _ _ _ _ h4, rfl, h1, h2, h3, by simp; omega, by simp; omega, qaf _ qwZ _, trivial⟩
theorem qeP (g : Graph) (op : Int) (r : Node × Bool) (h : qcE g op = r) (hg : g.sz ≤ 1048576) : Ret Tryz.prog 139 [.agg g.e, .one (I op)] [.agg r.1.e, .one (B r.2)] := h ▸ qw0 g op hg
theorem ql2 (g : Graph) (xs : List Cell) (hg : g.sz ≤ 1048576) (hl : xs.length ≤ 1048576) : Ret Tryz.prog 194 [.agg g.e, .one (.sl 4 (xs.map Cell.e))] [.one (.sl 4 ((qea g xs).map Cell.e))] := by
  have l := qaj (P := Tryz.prog) (c := (qaa Tryz.f194 0)) (qah 0) xs.length (fun i : Nat => qcU (xs.map Cell.e) i (((xs.take i).filter (isOut g)).map Cell.e) (g.nodes.map Node.e) g.workers g.cap) (fun i hi => by
    obtain ⟨a, ha⟩ := qag hi
    have hf := qcS (isOut g) xs i
    have hs := qcg (isOut g) ha
    cases h : qaS g a.op with
    | none =>
      have hp : isOut g a = false := by simp [isOut, h]
      rw [if_neg (by simp [hp]), List.append_nil] at hs
      rw [hs]
      exact qvi _ _ _ _ _ _ _ _ _ _ _ _ _ _ _ ⟨lt1 hi, lt0, lt2 hi, qae Cell.e ha, qeP g a.op _ (by unfold qcE; rw [h]) hg, rfl, up1 hi hl, trivial⟩
    | some w =>
      have n := qeP g a.op (w, true) (by unfold qcE; rw [h]) hg
      by_cases hk : (w.kind == 8) = true
      · have hp : isOut g a = true := by simp only [isOut, h]; exact hk
        rw [if_pos hp] at hs
        rw [hs, List.map_append]
        exact qvg _ _ _ _ _ _ _ _ _ _ _ _ _ _ _ _ _ _ _ ⟨lt1 hi, lt0, lt2 hi, qae Cell.e ha, n, rfl, hk, lt0, lt2 hi, qae Cell.e ha, by simp; omega, by simp; omega, qat a.flat, up1 hi hl, trivial⟩
      · have hp : isOut g a = false := by simp only [isOut, h]; simpa using hk
        rw [if_neg (by simp [hp]), List.append_nil] at hs
        rw [hs]
        exact qvh _ _ _ _ _ _ _ _ _ _ _ _ _ _ _ ⟨lt1 hi, lt0, lt2 hi, qae Cell.e ha, n, rfl, by simpa using hk, up1 hi hl, trivial⟩) (qvj _ _ _ _ _ _ ⟨ge1, trivial⟩)
  rw [List.take_length] at l
  exact qvk _ _ _ _ _ ⟨l, trivial⟩
theorem ql3 (g : Graph) (xs : List Cell) (hg : g.sz ≤ 1048576) (hl : xs.length ≤ 1048576) : Ret Tryz.prog 199 [.agg g.e, .one (.sl 4 (xs.map Cell.e))] [.one (.sl 4 ((qea g xs).map Cell.e))] := by
  have l := qaj (P := Tryz.prog) (c := (qaa Tryz.f199 0)) (qah 0) xs.length (fun i : Nat => qcT (xs.map Cell.e) i (((xs.take i).filter (isOut g)).map Cell.e) (g.nodes.map Node.e) g.workers g.cap) (fun i hi => by
    obtain ⟨a, ha⟩ := qag hi
    have hf := qcS (isOut g) xs i
    have hs := qcg (isOut g) ha
    cases h : qaS g a.op with
    | none =>
      have hp : isOut g a = false := by simp [isOut, h]
      rw [if_neg (by simp [hp]), List.append_nil] at hs
      rw [hs]
      exact qur _ _ _ _ _ _ _ _ _ _ _ ⟨lt1 hi, lt0, lt2 hi, qae Cell.e ha, qeO g a.op false (by rw [h]; rfl) hg, rfl, up1 hi hl, trivial⟩
    | some w =>
      have n := qeO g a.op true (by rw [h]; rfl) hg
      obtain ⟨h1, h2, h3, h4⟩ := qeb h
      by_cases hk : (w.kind == 8) = true
      · have hp : isOut g a = true := by simp only [isOut, h]; exact hk
        rw [if_pos hp] at hs
        rw [hs, List.map_append]
        exact qup _ _ _ _ _ _ _ _ _ _ _ _ _ _ _ ⟨lt1 hi, lt0, lt2 hi, qae Cell.e ha, n, rfl, h1, h2, h3, hk, by simp; omega, by simp; omega, qat a.flat, up1 hi hl, trivial⟩
      · have hp : isOut g a = false := by simp only [isOut, h]; simpa using hk
        rw [if_neg (by simp [hp]), List.append_nil] at hs
        rw [hs]
        exact quq _ _ _ _ _ _ _ _ _ _ _ _ _ _ _ ⟨lt1 hi, lt0, lt2 hi, qae Cell.e ha, n, rfl, h1, h2, h3, by simpa using hk, up1 hi hl, trivial⟩) (qus _ _ _ _ _ _ ⟨ge1, trivial⟩)
  rw [List.take_length] at l
  exact qut _ _ _ _ _ ⟨l, trivial⟩
def qeQ (c : Cluster) (e : Int) : List Cell := (qea c.graph (qcW c)).filter fun x => x.epoch == e
theorem qjr {g : Graph} {xs : List Cell} (h : xs.length ≤ 1048576) : (qea g xs).length ≤ 1048576 := Nat.le_trans (List.length_filter_le ..) h
theorem ql4 {c : Cluster} {e : Int} (h : c.sz ≤ 1048576) : (qeQ c e).length ≤ 1048576 := Nat.le_trans (List.length_filter_le ..) (qjr (qfo h))
theorem Cluster.graph_sz {c : Cluster} (h : c.sz ≤ 1048576) : c.graph.sz ≤ 1048576 := by simp only [Cluster.sz] at h; omega
theorem qw1 (c : Cluster) (e : Int) (hc : c.sz ≤ 1048576) : Ret Tryz.prog 100 [.agg c.e, .one (I e)] [.one (.sl 4 ((qeQ c e).map Cell.e))] := by
  have o := ql2 c.graph (qcW c) (Cluster.graph_sz hc) (qfo hc)
  have hl := qjr (g := c.graph) (qfo hc)
  unfold qeQ
  generalize qea c.graph (qcW c) = xs at *
  let p := fun x : Cell => x.epoch == e
  have l := qaj (P := Tryz.prog) (c := (qaa Tryz.f100 0)) (qah 0) xs.length (fun i : Nat => qdW e (xs.map Cell.e) i (((xs.take i).filter p).map Cell.e)) (fun i hi => by
    obtain ⟨a, ha⟩ := qag hi
    have hf := qcS p xs i
    have hs := qcg p ha
    by_cases hp : p a = true
    · rw [if_pos hp] at hs
      rw [hs, List.map_append]
      exact qvq _ _ _ _ _ _ _ _ _ _ _ _ ⟨lt1 hi, lt0, lt2 hi, qae Cell.e ha, hp, lt0, lt2 hi, qae Cell.e ha, by simp; omega, by simp; omega, qat a.flat, up1 hi hl, trivial⟩
    · rw [if_neg hp, List.append_nil] at hs
      rw [hs]
      exact qvr _ _ _ _ _ _ _ _ ⟨lt1 hi, lt0, lt2 hi, qae Cell.e ha, Bool.eq_false_iff.2 hp, up1 hi hl, trivial⟩) (qvs _ _ _ _ ⟨ge1, trivial⟩)
  rw [List.take_length] at l
  exact qvt _ _ _ _ _ _ _ _ _ _ _ ⟨qv4 c hc, o, l, trivial⟩
theorem qw2 (c : Cluster) (e : Int) (hc : c.sz ≤ 1048576) : Ret Tryz.prog 104 [.agg c.e, .one (I e)] [.one (.sl 4 ((qeQ c e).map Cell.e))] := by
  have o := ql3 c.graph (qcW c) (Cluster.graph_sz hc) (qfo hc)
  have hl := qjr (g := c.graph) (qfo hc)
  unfold qeQ
  generalize qea c.graph (qcW c) = xs at *
  let p := fun x : Cell => x.epoch == e
  have l := qaj (P := Tryz.prog) (c := (qaa Tryz.f104 0)) (qah 0) xs.length (fun i : Nat => qdS e (xs.map Cell.e) i (((xs.take i).filter p).map Cell.e)) (fun i hi => by
    obtain ⟨a, ha⟩ := qag hi
    have hf := qcS p xs i
    have hs := qcg p ha
    by_cases hp : p a = true
    · rw [if_pos hp] at hs
      rw [hs, List.map_append]
      exact quz _ _ _ _ _ _ _ _ ⟨lt1 hi, lt0, lt2 hi, qae Cell.e ha, hp, by simp; omega, by simp; omega, qat a.flat, up1 hi hl, trivial⟩
    · rw [if_neg hp, List.append_nil] at hs
      rw [hs]
      exact quA _ _ _ _ _ _ _ _ ⟨lt1 hi, lt0, lt2 hi, qae Cell.e ha, Bool.eq_false_iff.2 hp, up1 hi hl, trivial⟩) (quB _ _ _ _ ⟨ge1, trivial⟩)
  rw [List.take_length] at l
  exact quC _ _ _ _ _ _ _ _ _ _ _ ⟨qv5 c hc, o, l, trivial⟩
