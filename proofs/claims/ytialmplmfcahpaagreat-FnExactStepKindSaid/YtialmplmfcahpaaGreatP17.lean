/- slices.DeleteFunc, Recall, StepOp: what program and reference compute (cases put together by gentree.py). -/
import Derived.Test.YtialmplmfcahpaaGreatP16
import Derived.Test.YtialmplmfcahpaaGreatC3
import Derived.Test.YtialmplmfcahpaaGreatGS
set_option linter.unusedVariables false
set_option linter.unusedSimpArgs false
namespace Go.Proofs.YtialmplmfcahpaaGreat
open Go.Sx Go.RowKit Go.Proofs.Tryz
theorem qBV {P : Program} {f : Nat} {args : List GA} {k : Nat} {l l' : List (List D)} (h : RetG P f args [.one (.sl k l)]) (hl : l = l') : RetG P f args [.one (.sl k l')] := hl ▸ h
theorem qjE (xs : List Cell) (p : Cell → Bool) (g : Nat) (caps : List D) (hl : xs.length ≤ 1048576) (hc : qbk prog g = true) (hp : ∀ x ∈ xs, ∀ r, p x = r → Ret prog g ([.agg x.e] ++ caps.map .one) [.one (B r)]) :
    ∀ (n i : Nat) (ys : List Cell), n + i = xs.length → ys.length = xs.length → ys.drop i = xs.drop i → ys.take ((xs.take i).filter fun a => !p a).length = (xs.take i).filter (fun a => !p a) →
    ∃ zs : List Cell, qac prog (qaa f296 0) (qdb g caps i ((xs.take i).filter fun a => !p a).length (ys.map Cell.e)) (.exit 0) (qgu (zs.map Cell.e) (xs.filter fun a => !p a).length) ∧ zs.length = xs.length ∧ zs.take (xs.filter fun a => !p a).length = xs.filter (fun a => !p a)
  | 0, i, ys, hi, hy, _, ht => by
    have e : xs.take i = xs := List.take_of_length_le (by omega)
    rw [e] at ht ⊢
    exact ⟨ys, .last (qah 0) (quK _ _ _ _ _ ⟨dF (by simp; omega), trivial⟩), hy, ht⟩
  | n + 1, i, ys, hi, hy, hd, ht => by
    obtain ⟨a, ha⟩ := qag (xs := xs) (i := i) (by omega)
    have hya : ys[i]? = some a := by
      have e1 : ys[i]? = (ys.drop i)[0]? := by simp
      have e2 : xs[i]? = (xs.drop i)[0]? := by simp
      rw [e1, hd, ← e2, ha]
    have hf := qcg (fun a => !p a) ha
    have hle := qcS (fun a => !p a) xs i
    have hdn : ys.drop (i + 1) = xs.drop (i + 1) := by
      have := congrArg (List.drop 1) hd
      simpa [List.drop_drop, Nat.add_comm] using this
    cases h : p a with
    | true =>
      rw [h] at hf
      simp only [Bool.not_true, Bool.false_eq_true, if_false, List.append_nil] at hf
      obtain ⟨zs, h1, h2, h3⟩ := qjE xs p g caps hl hc hp n (i + 1) ys (by omega) hy hdn (by rw [hf]; exact ht)
      rw [hf] at h1
      exact ⟨zs, .more (quJ _ _ _ _ _ _ _ _ _ _ ⟨dT (by simp; omega), lt0, by simp; omega, qae Cell.e hya, hc, hp a (qaG ha) true h, rfl, ⟨by omega, by omega⟩, trivial⟩) h1, h2, h3⟩
    | false =>
      rw [h] at hf
      simp only [Bool.not_false, if_true] at hf
      generalize hj : ((xs.take i).filter fun a => !p a).length = j at *
      obtain ⟨b, hb⟩ := qag (xs := ys) (i := j) (by omega)
      obtain ⟨zs, h1, h2, h3⟩ := qjE xs p g caps hl hc hp n (i + 1) (ys.set j a) (by omega) (by simpa using hy) (by rw [List.drop_set_of_lt (by omega)]; exact hdn) (by
        rw [hf, List.length_append, hj, List.length_singleton, List.take_set, ← ht]
        have hjl : j < ys.length := by omega
        rw [List.take_succ_eq_append_getElem hjl, List.set_append_right _ _ (by simp; omega)]
        simp [List.length_take, Nat.min_eq_left (Nat.le_of_lt hjl)])
      rw [hf, List.length_append, hj, List.length_singleton] at h1
      refine ⟨zs, .more (tr_to (fun l => qdb g caps ((i + 1 : Nat) : Int) ((j + 1 : Nat) : Int) l) (quI _ _ _ _ _ _ _ _ _ _ _ _ _ _ ⟨dT (by simp; omega), lt0, by simp; omega, qae Cell.e hya, hc, hp a (qaG ha) false h, rfl, lt0, by simp; omega, qae Cell.e hb, ⟨by omega, by omega⟩, ⟨by omega, by omega⟩, trivial⟩) ?_) h1, h2, h3⟩
      show List.set _ _ a.e = _
      rw [Int.toNat_natCast, ← List.map_set]
theorem qBW (xs : List Cell) (p : Cell → Bool) (g : Nat) (caps : List D) (hl : xs.length ≤ 1048576) (hc : qbk prog g = true) (hp : ∀ x ∈ xs, Ret prog g ([.agg x.e] ++ caps.map .one) [.one (B (p x))]) :
    RetG prog 296 [.one (.gv 4 (xs.map Cell.e) none), .one (.ro (.cl g caps))] [.one (.sl 4 ((xs.filter fun a => !p a).map Cell.e))] := by
  have hp' : ∀ x ∈ xs, ∀ r, p x = r → Ret prog g ([.agg x.e] ++ caps.map .one) [.one (B r)] := fun x hx r h => h ▸ hp x hx
  have ix := qBi xs p g caps hl hc hp
  unfold idxI at ix
  cases h : xs.findIdx? p with
  | none =>
    rw [h] at ix
    rw [List.findIdx?_eq_none_iff] at h
    have e : (xs.filter fun a => !p a) = xs := List.filter_eq_self.2 fun a ha => by simp [h a ha]
    rw [e]
    exact quH _ _ _ _ ⟨ix, rfl, trivial⟩
  | some i =>
    rw [h] at ix
    change Ret _ _ _ [.one (I (i : Int))] at ix
    rw [List.findIdx?_eq_some_iff_getElem] at h
    obtain ⟨hi, h2, h3⟩ := h
    have hx : xs[i]? = some xs[i] := List.getElem?_eq_getElem hi
    have e0 : (xs.take i).filter (fun a => !p a) = xs.take i := List.filter_eq_self.2 fun a ha => by
      obtain ⟨j, hj, rfl⟩ := List.getElem_of_mem ha
      have hji : j < i := by simp at hj; omega
      have := h3 j hji
      simpa using this
    have e1 := qcg (fun a => !p a) hx
    rw [h2] at e1
    simp only [Bool.not_true, Bool.false_eq_true, if_false, List.append_nil] at e1
    rw [e0] at e1
    have e2 : (xs.take i).length = i := by rw [List.length_take]; omega
    obtain ⟨zs, l, hz, ht⟩ := qjE xs p g caps hl hc hp' (xs.length - (i + 1)) (i + 1) xs (by omega) rfl rfl (by rw [e1, e2])
    rw [e1, e2] at l
    have hlt : (xs.filter fun a => !p a).length < xs.length := by
      have e3 : xs.filter (fun a => !p a) = xs.take i ++ (xs.drop (i + 1)).filter fun a => !p a := by
        have := List.take_append_drop (i + 1) xs
        rw [← this, List.filter_append, this, e1]
      rw [e3, List.length_append, e2]
      have := List.length_filter_le (fun a => !p a) (xs.drop (i + 1))
      rw [List.length_drop] at this
      omega
    generalize xs.filter (fun a => !p a) = fs at *
    refine qBV (quL _ _ _ _ _ _ ⟨ix, beq_eq_false_iff_ne.2 (by omega), ⟨by omega, by omega⟩, l, by simp, by simp; omega, qaf _ Cell.flat _, by simp, by simp, by simp; omega, trivial⟩) ?_
    simp only [Option.getD_some, Int.toNat_natCast, Nat.sub_zero, List.drop_zero, ← List.map_take]
    rw [ht, List.take_append_of_le_length (by simp), List.take_of_length_le (by simp)]
def qaH (k : Int) : Bool := k == 5 || k == 6 || k == 8
def qaF (xs : List Cell) (x : Cell) : List Cell × Bool :=
  if (qbv xs x.op x.epoch x.key).2 && decide ((qbv xs x.op x.epoch x.key).1 ≤ x.val) then (xs, false) else (qa3 (xs.filter fun a => !qas x a) x, true)
def qak (kind : Int) (xs : List Cell) (x : Cell) : List Cell × Bool :=
  if kind = 6 then (if qbr xs x then (xs, false) else (qa3 xs x, true))
  else if kind = 5 ∨ kind = 8 then qaF xs x
  else (xs, true)
theorem qmN (k : Int) : Ret prog 143 [.one (I k)] [.one (B (qaH k))] := by
  rcases Bool.eq_false_or_eq_true (k == 5) with h1 | h1
  · skip
    rw [show qaH k = true from by grind [qaH]]
    exact qvC _ ⟨h1, trivial⟩
  · skip
    rcases Bool.eq_false_or_eq_true (k == 6) with h2 | h2
    · skip
      rw [show qaH k = true from by grind [qaH]]
      exact qvD _ ⟨h1, h2, trivial⟩
    · skip
      rw [show qaH k = (k == 8) from by grind [qaH]]
      exact qvE _ ⟨h1, h2, trivial⟩
theorem qjF (xs : List Cell) (x : Cell) (hl : xs.length ≤ 1048576) : Ret prog 254 [.one (.sl 4 (xs.map Cell.e)), .agg x.e] [.one (.sl 4 ((qaF xs x).1.map Cell.e)), .one (B (qaF xs x).2)] := by
  have c := qBh xs x.op x.epoch x.key hl
  have cp := qdd xs hl
  have d := qBW xs (qas x) 297 [D.ptr x.e] hl (by kernel_rfl) (fun y _ => quG _ _ _ _ _ _ _ _ _ ⟨qmI x y, trivial⟩)
  have pc := qjs (xs.filter fun a => !qas x a) x (Nat.le_trans (List.length_filter_le ..) hl)
  unfold qaF
  generalize qbv xs x.op x.epoch x.key = m at *
  obtain ⟨v, f⟩ := m
  cases f with
  | false => exact quU _ _ _ _ _ _ _ _ _ _ ⟨c, rfl, cp, d, pc, trivial⟩
  | true =>
    by_cases h : v ≤ x.val
    · rw [dT h]
      exact quS _ _ _ _ _ _ _ _ ⟨c, rfl, dT h, cp, trivial⟩
    · rw [dF h]
      exact quT _ _ _ _ _ _ _ _ _ _ ⟨c, rfl, dF h, cp, d, pc, trivial⟩
theorem qBX (xs acc : List Cell) (x : Cell) (hl : xs.length ≤ 1048576) (i : Nat) (hc : acc.length ≤ i) (a : Cell) (ha : xs[i]? = some a) : Tr prog (qaa f144 0) (qbi (xs.map Cell.e) x.op x.epoch x.key x.val i (acc.map Cell.e)) .normal (qbi (xs.map Cell.e) x.op x.epoch x.key x.val ((i + 1 : Nat) : Int) ((acc ++ (bif qas x a then [] else [a])).map Cell.e)) := by
  have hj := lt_of ha
  have hk1 : xs[(i : Int).toNat]? = some a := by simpa using ha
  have hj1 : decide ((i : Int) < (↑(xs.map Cell.e).length : Int)) = true := lt1 hj
  rcases Bool.eq_false_or_eq_true (a.op != x.op) with h1 | h1
  · skip
    have hs : qas x a = false := by grind [qas]
    rw [hs]
    rw [show (acc ++ (bif false then [] else [a])).map Cell.e = acc.map Cell.e ++ [a.e] from by simp]
    exact qvI _ _ _ _ _ _ _ _ _ _ _ _ _ _ _ ⟨hj1, (by first | omega | (simp only [List.length_map, List.length_cons, List.length_nil]; omega) | exact qat a.flat | (exact ⟨by omega, by omega⟩)), (by first | omega | (simp only [List.length_map, List.length_cons, List.length_nil]; omega) | exact qat a.flat | (exact ⟨by omega, by omega⟩)), (qad Cell.e hk1), h1, (by first | omega | (simp only [List.length_map, List.length_cons, List.length_nil]; omega) | exact qat a.flat | (exact ⟨by omega, by omega⟩)), (by first | omega | (simp only [List.length_map, List.length_cons, List.length_nil]; omega) | exact qat a.flat | (exact ⟨by omega, by omega⟩)), (qad Cell.e hk1), (by first | omega | (simp only [List.length_map, List.length_cons, List.length_nil]; omega) | exact qat a.flat | (exact ⟨by omega, by omega⟩)), (by first | omega | (simp only [List.length_map, List.length_cons, List.length_nil]; omega) | exact qat a.flat | (exact ⟨by omega, by omega⟩)), (by first | omega | (simp only [List.length_map, List.length_cons, List.length_nil]; omega) | exact qat a.flat | (exact ⟨by omega, by omega⟩)), (by first | omega | (simp only [List.length_map, List.length_cons, List.length_nil]; omega) | exact qat a.flat | (exact ⟨by omega, by omega⟩)), trivial⟩
  · skip
    rcases Bool.eq_false_or_eq_true (a.epoch != x.epoch) with h2 | h2
    · skip
      have hs : qas x a = false := by grind [qas]
      rw [hs]
      rw [show (acc ++ (bif false then [] else [a])).map Cell.e = acc.map Cell.e ++ [a.e] from by simp]
      exact qvJ _ _ _ _ _ _ _ _ _ _ _ _ _ _ _ _ _ _ _ ⟨hj1, (by first | omega | (simp only [List.length_map, List.length_cons, List.length_nil]; omega) | exact qat a.flat | (exact ⟨by omega, by omega⟩)), (by first | omega | (simp only [List.length_map, List.length_cons, List.length_nil]; omega) | exact qat a.flat | (exact ⟨by omega, by omega⟩)), (qad Cell.e hk1), h1, (by first | omega | (simp only [List.length_map, List.length_cons, List.length_nil]; omega) | exact qat a.flat | (exact ⟨by omega, by omega⟩)), (by first | omega | (simp only [List.length_map, List.length_cons, List.length_nil]; omega) | exact qat a.flat | (exact ⟨by omega, by omega⟩)), (qad Cell.e hk1), h2, (by first | omega | (simp only [List.length_map, List.length_cons, List.length_nil]; omega) | exact qat a.flat | (exact ⟨by omega, by omega⟩)), (by first | omega | (simp only [List.length_map, List.length_cons, List.length_nil]; omega) | exact qat a.flat | (exact ⟨by omega, by omega⟩)), (qad Cell.e hk1), (by first | omega | (simp only [List.length_map, List.length_cons, List.length_nil]; omega) | exact qat a.flat | (exact ⟨by omega, by omega⟩)), (by first | omega | (simp only [List.length_map, List.length_cons, List.length_nil]; omega) | exact qat a.flat | (exact ⟨by omega, by omega⟩)), (by first | omega | (simp only [List.length_map, List.length_cons, List.length_nil]; omega) | exact qat a.flat | (exact ⟨by omega, by omega⟩)), (by first | omega | (simp only [List.length_map, List.length_cons, List.length_nil]; omega) | exact qat a.flat | (exact ⟨by omega, by omega⟩)), trivial⟩
    · skip
      rcases Bool.eq_false_or_eq_true (a.key != x.key) with h3 | h3
      · skip
        have hs : qas x a = false := by grind [qas]
        rw [hs]
        rw [show (acc ++ (bif false then [] else [a])).map Cell.e = acc.map Cell.e ++ [a.e] from by simp]
        exact qvK _ _ _ _ _ _ _ _ _ _ _ _ _ _ _ _ _ _ _ _ _ _ _ ⟨hj1, (by first | omega | (simp only [List.length_map, List.length_cons, List.length_nil]; omega) | exact qat a.flat | (exact ⟨by omega, by omega⟩)), (by first | omega | (simp only [List.length_map, List.length_cons, List.length_nil]; omega) | exact qat a.flat | (exact ⟨by omega, by omega⟩)), (qad Cell.e hk1), h1, (by first | omega | (simp only [List.length_map, List.length_cons, List.length_nil]; omega) | exact qat a.flat | (exact ⟨by omega, by omega⟩)), (by first | omega | (simp only [List.length_map, List.length_cons, List.length_nil]; omega) | exact qat a.flat | (exact ⟨by omega, by omega⟩)), (qad Cell.e hk1), h2, (by first | omega | (simp only [List.length_map, List.length_cons, List.length_nil]; omega) | exact qat a.flat | (exact ⟨by omega, by omega⟩)), (by first | omega | (simp only [List.length_map, List.length_cons, List.length_nil]; omega) | exact qat a.flat | (exact ⟨by omega, by omega⟩)), (qad Cell.e hk1), h3, (by first | omega | (simp only [List.length_map, List.length_cons, List.length_nil]; omega) | exact qat a.flat | (exact ⟨by omega, by omega⟩)), (by first | omega | (simp only [List.length_map, List.length_cons, List.length_nil]; omega) | exact qat a.flat | (exact ⟨by omega, by omega⟩)), (qad Cell.e hk1), (by first | omega | (simp only [List.length_map, List.length_cons, List.length_nil]; omega) | exact qat a.flat | (exact ⟨by omega, by omega⟩)), (by first | omega | (simp only [List.length_map, List.length_cons, List.length_nil]; omega) | exact qat a.flat | (exact ⟨by omega, by omega⟩)), (by first | omega | (simp only [List.length_map, List.length_cons, List.length_nil]; omega) | exact qat a.flat | (exact ⟨by omega, by omega⟩)), (by first | omega | (simp only [List.length_map, List.length_cons, List.length_nil]; omega) | exact qat a.flat | (exact ⟨by omega, by omega⟩)), trivial⟩
      · skip
        have hs : qas x a = true := by grind [qas]
        rw [hs]
        rw [show (acc ++ (bif true then [] else [a])).map Cell.e = acc.map Cell.e from by simp]
        exact qvL _ _ _ _ _ _ _ _ _ _ _ _ _ _ _ _ _ _ _ ⟨hj1, (by first | omega | (simp only [List.length_map, List.length_cons, List.length_nil]; omega) | exact qat a.flat | (exact ⟨by omega, by omega⟩)), (by first | omega | (simp only [List.length_map, List.length_cons, List.length_nil]; omega) | exact qat a.flat | (exact ⟨by omega, by omega⟩)), (qad Cell.e hk1), h1, (by first | omega | (simp only [List.length_map, List.length_cons, List.length_nil]; omega) | exact qat a.flat | (exact ⟨by omega, by omega⟩)), (by first | omega | (simp only [List.length_map, List.length_cons, List.length_nil]; omega) | exact qat a.flat | (exact ⟨by omega, by omega⟩)), (qad Cell.e hk1), h2, (by first | omega | (simp only [List.length_map, List.length_cons, List.length_nil]; omega) | exact qat a.flat | (exact ⟨by omega, by omega⟩)), (by first | omega | (simp only [List.length_map, List.length_cons, List.length_nil]; omega) | exact qat a.flat | (exact ⟨by omega, by omega⟩)), (qad Cell.e hk1), h3, (by first | omega | (simp only [List.length_map, List.length_cons, List.length_nil]; omega) | exact qat a.flat | (exact ⟨by omega, by omega⟩)), trivial⟩
theorem qBY (p : Cell → Bool) {xs : List Cell} {i : Nat} {a : Cell} (h : xs[i]? = some a) : (xs.take (i + 1)).filter (fun b => !p b) = (xs.take i).filter (fun b => !p b) ++ (bif p a then [] else [a]) := by
  rw [qcg _ h]
  cases p a <;> rfl
theorem qgU (xs : List Cell) (x : Cell) (hl : xs.length ≤ 1048576) : qac prog (qaa f144 0) (qbi (xs.map Cell.e) x.op x.epoch x.key x.val 0 []) (.exit 1) (qcv x.op x.epoch x.key x.val ((xs.filter fun a => !qas x a).map Cell.e)) := by
  have l := qaj (P := prog) (c := (qaa f144 0)) (qah 1) xs.length (fun i : Nat => qbi (xs.map Cell.e) x.op x.epoch x.key x.val i (((xs.take i).filter fun a => !qas x a).map Cell.e)) (fun i hi => by
    obtain ⟨a, ha⟩ := qag hi
    rw [qBY (qas x) ha]
    exact qBX xs _ x hl i (qcS _ xs i) a ha) (qvM _ _ _ _ _ _ _ ⟨ge1, trivial⟩)
  rw [List.take_length] at l
  exact l
theorem qjG (kind : Int) (xs : List Cell) (x : Cell) (hl : xs.length ≤ 1048576) : Ret prog 144 [.one (I kind), .one (.sl 4 (xs.map Cell.e)), .agg x.e] [.one (.sl 4 (((qak kind xs x).1).map Cell.e)), .one (B ((qak kind xs x).2))] := by
  have hf := List.length_filter_le (fun a => !qas x a) xs
  rcases Bool.eq_false_or_eq_true (kind == 6) with h1 | h1
  · skip
    have c2 := qmh xs x (by omega)
    rcases Bool.eq_false_or_eq_true (qbr xs x) with h3 | h3
    · skip
      rw [show qak kind xs x = (xs, false) from by grind [qak, qaF]]
      exact qvF _ _ _ _ _ _ _ ⟨(by first | omega | (simp only [List.length_map, List.length_nil]; omega) | exact qaf _ Cell.flat _ | grind [inInt]), (by first | omega | (simp only [List.length_map, List.length_nil]; omega) | exact qaf _ Cell.flat _ | grind [inInt]), (by first | omega | (simp only [List.length_map, List.length_nil]; omega) | exact qaf _ Cell.flat _ | grind [inInt]), h1, c2, h3, trivial⟩
    · skip
      have c4 := qeN xs x (by omega)
      rw [show qak kind xs x = ((qa3 xs x), true) from by grind [qak, qaF]]
      exact qvG _ _ _ _ _ _ _ _ ⟨(by first | omega | (simp only [List.length_map, List.length_nil]; omega) | exact qaf _ Cell.flat _ | grind [inInt]), (by first | omega | (simp only [List.length_map, List.length_nil]; omega) | exact qaf _ Cell.flat _ | grind [inInt]), (by first | omega | (simp only [List.length_map, List.length_nil]; omega) | exact qaf _ Cell.flat _ | grind [inInt]), h1, c2, h3, c4, trivial⟩
  · skip
    rcases Bool.eq_false_or_eq_true (kind == 5) with h5 | h5
    · skip
      have c6 := qmJ xs x.op x.epoch x.key (by omega)
      rcases Bool.eq_false_or_eq_true ((qbv xs x.op x.epoch x.key).2) with h7 | h7
      · skip
        rcases Bool.eq_false_or_eq_true (decide (((qbv xs x.op x.epoch x.key).1) ≤ x.val)) with h8 | h8
        · skip
          rw [show qak kind xs x = (xs, false) from by grind [qak, qaF]]
          exact qvH _ _ _ _ _ _ _ _ ⟨(by first | omega | (simp only [List.length_map, List.length_nil]; omega) | exact qaf _ Cell.flat _ | grind [inInt]), (by first | omega | (simp only [List.length_map, List.length_nil]; omega) | exact qaf _ Cell.flat _ | grind [inInt]), (by first | omega | (simp only [List.length_map, List.length_nil]; omega) | exact qaf _ Cell.flat _ | grind [inInt]), h1, h5, h5, c6, h7, h8, trivial⟩
        · skip
          
          have c9 := qeN (xs.filter fun a => !qas x a) x (by omega)
          rw [show qak kind xs x = ((qa3 (xs.filter fun a => !qas x a) x), true) from by grind [qak, qaF]]
          exact qvN _ _ _ _ _ _ _ _ _ _ ⟨(by first | omega | (simp only [List.length_map, List.length_nil]; omega) | exact qaf _ Cell.flat _ | grind [inInt]), (by first | omega | (simp only [List.length_map, List.length_nil]; omega) | exact qaf _ Cell.flat _ | grind [inInt]), (by first | omega | (simp only [List.length_map, List.length_nil]; omega) | exact qaf _ Cell.flat _ | grind [inInt]), h1, h5, h5, c6, h7, h8, (qgU xs x hl), c9, trivial⟩
      · skip
        
        have c10 := qeN (xs.filter fun a => !qas x a) x (by omega)
        rw [show qak kind xs x = ((qa3 (xs.filter fun a => !qas x a) x), true) from by grind [qak, qaF]]
        exact qvO _ _ _ _ _ _ _ _ _ _ ⟨(by first | omega | (simp only [List.length_map, List.length_nil]; omega) | exact qaf _ Cell.flat _ | grind [inInt]), (by first | omega | (simp only [List.length_map, List.length_nil]; omega) | exact qaf _ Cell.flat _ | grind [inInt]), (by first | omega | (simp only [List.length_map, List.length_nil]; omega) | exact qaf _ Cell.flat _ | grind [inInt]), h1, h5, h5, c6, h7, (qgU xs x hl), c10, trivial⟩
    · skip
      rcases Bool.eq_false_or_eq_true (kind == 8) with h11 | h11
      · skip
        have c12 := qmJ xs x.op x.epoch x.key (by omega)
        rcases Bool.eq_false_or_eq_true ((qbv xs x.op x.epoch x.key).2) with h13 | h13
        · skip
          rcases Bool.eq_false_or_eq_true (decide (((qbv xs x.op x.epoch x.key).1) ≤ x.val)) with h14 | h14
          · skip
            rw [show qak kind xs x = (xs, false) from by grind [qak, qaF]]
            exact qvP _ _ _ _ _ _ _ _ ⟨(by first | omega | (simp only [List.length_map, List.length_nil]; omega) | exact qaf _ Cell.flat _ | grind [inInt]), (by first | omega | (simp only [List.length_map, List.length_nil]; omega) | exact qaf _ Cell.flat _ | grind [inInt]), (by first | omega | (simp only [List.length_map, List.length_nil]; omega) | exact qaf _ Cell.flat _ | grind [inInt]), h1, h5, h11, c12, h13, h14, trivial⟩
          · skip
            
            have c15 := qeN (xs.filter fun a => !qas x a) x (by omega)
            rw [show qak kind xs x = ((qa3 (xs.filter fun a => !qas x a) x), true) from by grind [qak, qaF]]
            exact qvQ _ _ _ _ _ _ _ _ _ _ ⟨(by first | omega | (simp only [List.length_map, List.length_nil]; omega) | exact qaf _ Cell.flat _ | grind [inInt]), (by first | omega | (simp only [List.length_map, List.length_nil]; omega) | exact qaf _ Cell.flat _ | grind [inInt]), (by first | omega | (simp only [List.length_map, List.length_nil]; omega) | exact qaf _ Cell.flat _ | grind [inInt]), h1, h5, h11, c12, h13, h14, (qgU xs x hl), c15, trivial⟩
        · skip
          
          have c16 := qeN (xs.filter fun a => !qas x a) x (by omega)
          rw [show qak kind xs x = ((qa3 (xs.filter fun a => !qas x a) x), true) from by grind [qak, qaF]]
          exact qvR _ _ _ _ _ _ _ _ _ _ ⟨(by first | omega | (simp only [List.length_map, List.length_nil]; omega) | exact qaf _ Cell.flat _ | grind [inInt]), (by first | omega | (simp only [List.length_map, List.length_nil]; omega) | exact qaf _ Cell.flat _ | grind [inInt]), (by first | omega | (simp only [List.length_map, List.length_nil]; omega) | exact qaf _ Cell.flat _ | grind [inInt]), h1, h5, h11, c12, h13, (qgU xs x hl), c16, trivial⟩
      · skip
        rw [show qak kind xs x = (xs, true) from by grind [qak, qaF]]
        exact qvS _ _ _ _ _ _ ⟨(by first | omega | (simp only [List.length_map, List.length_nil]; omega) | exact qaf _ Cell.flat _ | grind [inInt]), (by first | omega | (simp only [List.length_map, List.length_nil]; omega) | exact qaf _ Cell.flat _ | grind [inInt]), (by first | omega | (simp only [List.length_map, List.length_nil]; omega) | exact qaf _ Cell.flat _ | grind [inInt]), h1, h5, h11, trivial⟩
theorem qmO (kind : Int) (xs : List Cell) (x : Cell) (hl : xs.length ≤ 1048576) : Ret prog 156 [.one (I kind), .one (.sl 4 (xs.map Cell.e)), .agg x.e] [.one (.sl 4 (((qak kind xs x).1).map Cell.e)), .one (B ((qak kind xs x).2))] := by
  rcases Bool.eq_false_or_eq_true (kind == 5) with h1 | h1
  · skip
    have c2 := qjF xs x (by omega)
    rw [show qak kind xs x = (((qaF xs x).1), (qaF xs x).2) from by grind [qak, qaF, qa3]]
    exact quV _ _ _ _ _ _ _ _ ⟨h1, h1, c2, trivial⟩
  · skip
    rcases Bool.eq_false_or_eq_true (kind == 8) with h3 | h3
    · skip
      have c4 := qjF xs x (by omega)
      rw [show qak kind xs x = (((qaF xs x).1), (qaF xs x).2) from by grind [qak, qaF, qa3]]
      exact quW _ _ _ _ _ _ _ _ ⟨h1, h3, c4, trivial⟩
    · skip
      rcases Bool.eq_false_or_eq_true (kind == 6) with h5 | h5
      · skip
        have c6 := qjs xs x (by omega)
        have c7 := qmj xs x (by omega)
        rw [show qak kind xs x = ((qa3 xs x), !(qbr xs x)) from by grind [qak, qaF, qa3]]
        exact quX _ _ _ _ _ _ _ _ ⟨h1, h3, h5, c6, c7, trivial⟩
      · skip
        have c8 := qdd xs (by omega)
        rw [show qak kind xs x = (xs, true) from by grind [qak, qaF, qa3]]
        exact quY _ _ _ _ _ _ _ ⟨h1, h3, h5, c8, trivial⟩
def sends (x : Node) (s : Stamp) (key val : Int) : List Record := x.outs.map fun k => ⟨k, s, key, val⟩
def cellOf (r : Record) : Cell := ⟨r.op, r.stamp.epoch, r.key, r.val⟩
def qar (g : Graph) (cs : List Cell) (r : Record) (x : Node) : List Cell × List Record × Bool :=
  if qaE g && qaR r then
    if !(qai x r.key r.val).2.2 && x.kind != 8 then (cs, [], true)
    else if !(qak x.kind cs ⟨r.op, r.stamp.epoch, r.key, r.val⟩).2 then ((qak x.kind cs ⟨r.op, r.stamp.epoch, r.key, r.val⟩).1, [], true)
    else if x.kind = 7 then
      ((qak x.kind cs ⟨r.op, r.stamp.epoch, r.key, r.val⟩).1, (bif (qax r.stamp).2 then sends x (qax r.stamp).1 (qai x r.key r.val).1 (qai x r.key r.val).2.1 else []), true)
    else ((qak x.kind cs ⟨r.op, r.stamp.epoch, r.key, r.val⟩).1, sends x r.stamp (qai x r.key r.val).1 (qai x r.key r.val).2.1, true)
  else (cs, [], false)
theorem qeR (x : Node) (s : Stamp) (key val : Int) {i : Nat} {k : Int} (h : x.outs[i]? = some k) : (((x.outs.take (i + 1)).map fun k => (⟨k, s, key, val⟩ : Record)).map Record.e) = (((x.outs.take i).map fun k => (⟨k, s, key, val⟩ : Record)).map Record.e) ++ [(⟨k, s, key, val⟩ : Record).e] := by
  simp [List.take_add_one, h]
theorem qmP (x : Node) (hx : x.outs.length ≤ 1048576) (s : Stamp) (key val : Int) (nx : List (List D)) : qac prog (qaa f60 0) (qec x.kind x.a x.b (x.outs.map eI) key val nx s.epoch s.turn 0 []) (.exit 0) (qbT nx ((sends x s key val).map Record.e)) := by
  have l := qaj (P := prog) (c := (qaa f60 0)) (qah 0) x.outs.length (fun i : Nat => qec x.kind x.a x.b (x.outs.map eI) key val nx s.epoch s.turn i (((x.outs.take i).map fun k => (⟨k, s, key, val⟩ : Record)).map Record.e)) (fun i hi => by
    obtain ⟨k, hk⟩ := qag hi
    rw [qeR x s key val hk]
    exact qBp _ _ _ _ _ _ _ _ _ _ _ _ ⟨lt1 hi, lt0, lt2 hi, qae eI hk, by simp; omega, by simp; omega, qat (Record.flat ⟨k, s, key, val⟩), up1 hi hx, trivial⟩) (qBq _ _ _ _ _ _ _ _ _ _ _ ⟨ge1, trivial⟩)
  rw [List.take_length] at l
  exact l
theorem qmQ (x : Node) (hx : x.outs.length ≤ 1048576) (s : Stamp) (key val : Int) (nx : List (List D)) : qac prog (qaa f60 0) (qed s.epoch s.turn x.kind x.a x.b (x.outs.map eI) key val nx 0 []) (.exit 0) (qbT nx ((sends x s key val).map Record.e)) := by
  have l := qaj (P := prog) (c := (qaa f60 0)) (qah 0) x.outs.length (fun i : Nat => qed s.epoch s.turn x.kind x.a x.b (x.outs.map eI) key val nx i (((x.outs.take i).map fun k => (⟨k, s, key, val⟩ : Record)).map Record.e)) (fun i hi => by
    obtain ⟨k, hk⟩ := qag hi
    rw [qeR x s key val hk]
    exact qBs _ _ _ _ _ _ _ _ _ _ _ _ ⟨lt1 hi, lt0, lt2 hi, qae eI hk, by simp; omega, by simp; omega, qat (Record.flat ⟨k, s, key, val⟩), up1 hi hx, trivial⟩) (qBt _ _ _ _ _ _ _ _ _ _ _ ⟨ge1, trivial⟩)
  rw [List.take_length] at l
  exact l
theorem qmR (x : Node) (hx : x.outs.length ≤ 1048576) (s : Stamp) (key val : Int) (nx : List (List D)) : qac prog (qaa f60 0) (qee nx x.kind x.a x.b (x.outs.map eI) key val s.epoch s.turn 0 []) (.exit 0) (qbU nx ((sends x s key val).map Record.e)) := by
  have l := qaj (P := prog) (c := (qaa f60 0)) (qah 0) x.outs.length (fun i : Nat => qee nx x.kind x.a x.b (x.outs.map eI) key val s.epoch s.turn i (((x.outs.take i).map fun k => (⟨k, s, key, val⟩ : Record)).map Record.e)) (fun i hi => by
    obtain ⟨k, hk⟩ := qag hi
    rw [qeR x s key val hk]
    exact qBw _ _ _ _ _ _ _ _ _ _ _ _ ⟨lt1 hi, lt0, lt2 hi, qae eI hk, by simp; omega, by simp; omega, qat (Record.flat ⟨k, s, key, val⟩), up1 hi hx, trivial⟩) (qBx _ _ _ _ _ _ _ _ _ _ _ ⟨ge1, trivial⟩)
  rw [List.take_length] at l
  exact l
theorem qmS (x : Node) (hx : x.outs.length ≤ 1048576) (s : Stamp) (key val : Int) (nx : List (List D)) : qac prog (qaa f60 0) (qef nx s.epoch s.turn x.kind x.a x.b (x.outs.map eI) key val 0 []) (.exit 0) (qbU nx ((sends x s key val).map Record.e)) := by
  have l := qaj (P := prog) (c := (qaa f60 0)) (qah 0) x.outs.length (fun i : Nat => qef nx s.epoch s.turn x.kind x.a x.b (x.outs.map eI) key val i (((x.outs.take i).map fun k => (⟨k, s, key, val⟩ : Record)).map Record.e)) (fun i hi => by
    obtain ⟨k, hk⟩ := qag hi
    rw [qeR x s key val hk]
    exact qBz _ _ _ _ _ _ _ _ _ _ _ _ ⟨lt1 hi, lt0, lt2 hi, qae eI hk, by simp; omega, by simp; omega, qat (Record.flat ⟨k, s, key, val⟩), up1 hi hx, trivial⟩) (qBA _ _ _ _ _ _ _ _ _ _ _ ⟨ge1, trivial⟩)
  rw [List.take_length] at l
  exact l
theorem qmT (x : Node) (hx : x.outs.length ≤ 1048576) (s : Stamp) (key val : Int) (nx : List (List D)) : qac prog (qaa f67 0) (qeg s.epoch s.turn (x.outs.map eI) key val nx 0 []) (.exit 0) (qbV nx ((sends x s key val).map Record.e)) := by
  have l := qaj (P := prog) (c := (qaa f67 0)) (qah 0) x.outs.length (fun i : Nat => qeg s.epoch s.turn (x.outs.map eI) key val nx i (((x.outs.take i).map fun k => (⟨k, s, key, val⟩ : Record)).map Record.e)) (fun i hi => by
    obtain ⟨k, hk⟩ := qag hi
    rw [qeR x s key val hk]
    exact qBP _ _ _ _ _ _ _ _ _ ⟨lt1 hi, lt0, lt2 hi, qae eI hk, rfl, by simp; omega, by simp; omega, qat (Record.flat ⟨k, s, key, val⟩), up1 hi hx, trivial⟩) (qBQ _ _ _ _ _ _ _ _ ⟨ge1, trivial⟩)
  rw [List.take_length] at l
  exact l
theorem qmU (x : Node) (hx : x.outs.length ≤ 1048576) (b : Bool) (s : Stamp) (key val : Int) (nx : List (List D)) : qac prog (qaa f67 0) (qcF (x.outs.map eI) key val nx s.epoch s.turn b 0 []) (.exit 0) (qbV nx ((bif b then sends x s key val else []).map Record.e)) := by
  cases b with
  | true =>
    have l := qaj (P := prog) (c := (qaa f67 0)) (qah 0) x.outs.length (fun i : Nat => qcF (x.outs.map eI) key val nx s.epoch s.turn true i (((x.outs.take i).map fun k => (⟨k, s, key, val⟩ : Record)).map Record.e)) (fun i hi => by
      obtain ⟨k, hk⟩ := qag hi
      rw [qeR x s key val hk]
      exact qBM _ _ _ _ _ _ _ _ _ _ ⟨lt1 hi, lt0, lt2 hi, qae eI hk, rfl, by simp; omega, by simp; omega, qat (Record.flat ⟨k, s, key, val⟩), up1 hi hx, trivial⟩) (qmM _ _ _ _ _ _ _ _ _ ⟨ge1, trivial⟩)
    rw [List.take_length] at l
    exact l
  | false =>
    exact qaj (P := prog) (c := (qaa f67 0)) (qah 0) x.outs.length (fun i : Nat => qcF (x.outs.map eI) key val nx s.epoch s.turn false i []) (fun i hi => by
      obtain ⟨k, hk⟩ := qag hi
      exact qBN _ _ _ _ _ _ _ _ _ _ ⟨lt1 hi, lt0, lt2 hi, qae eI hk, rfl, up1 hi hx, trivial⟩) (qmM _ _ _ _ _ _ _ _ _ ⟨ge1, trivial⟩)
theorem qBZ (g : Graph) (cs : List Cell) (r : Record) (x : Node) (hg : g.sz ≤ 1048576) (hl : cs.length ≤ 1048576) (hn : qaS g r.op = some x) : Ret prog 60 [.agg g.e, .one (.sl 4 (cs.map Cell.e)), .agg r.e] [.one (.sl 4 ((qar g cs r x).1.map Cell.e)), .one (.sl 5 ((qar g cs r x).2.1.map Record.e)), .one (B (qar g cs r x).2.2)] := by
  have hx := Graph.outs_le hg (qfv hn)
  obtain ⟨hk0, hk2, _, _⟩ := qeb hn
  have hk1 : g.nodes[r.op.toNat]? = some x := by have := hn; unfold qaS at this; rwa [if_pos hk0] at this
  have c1 := qeP g r.op (x, true) (by unfold qcE; rw [hn]) hg
  have c2 := qmF g hg
  rcases Bool.eq_false_or_eq_true (qaE g) with h3 | h3
  · skip
    have c4 := qmw r
    rcases Bool.eq_false_or_eq_true (qaR r) with h5 | h5
    · skip
      have c6 := qmG x r.key r.val hx
      rcases Bool.eq_false_or_eq_true ((qai x r.key r.val).2.2) with h7 | h7
      · skip
        have c8 := qmN x.kind
        rcases Bool.eq_false_or_eq_true (qaH x.kind) with h9 | h9
        · skip
          have c10 := qjG x.kind cs (⟨r.op, r.stamp.epoch, r.key, r.val⟩ : Cell) (by omega)
          rcases Bool.eq_false_or_eq_true ((qak x.kind cs (⟨r.op, r.stamp.epoch, r.key, r.val⟩ : Cell)).2) with h11 | h11
          · skip
            rcases Bool.eq_false_or_eq_true (x.kind == 7) with h12 | h12
            · skip
              have c13 := qgT r.stamp
              rcases Bool.eq_false_or_eq_true ((qax r.stamp).2) with h14 | h14
              · skip
                
                rw [show qar g cs r x = (((qak x.kind cs (⟨r.op, r.stamp.epoch, r.key, r.val⟩ : Cell)).1), (sends x ((qax r.stamp).1) ((qai x r.key r.val).1) ((qai x r.key r.val).2.1)), true) from by grind [qar, qaH, qak]]
                exact qBE _ _ _ _ _ _ _ _ _ _ _ _ _ _ _ _ _ _ _ _ _ _ _ _ _ _ ⟨(by first | omega | (simp only [List.length_map, List.length_nil]; omega) | exact qaf _ Cell.flat _ | grind [inInt]), (by first | omega | (simp only [List.length_map, List.length_nil]; omega) | exact qaf _ Cell.flat _ | grind [inInt]), (by first | omega | (simp only [List.length_map, List.length_nil]; omega) | exact qaf _ Cell.flat _ | grind [inInt]), c1, rfl, c2, (by rw [h3]; rfl), c4, (by rw [h5]; rfl), c6, (by rw [h7]; rfl), c8, h9, c10, (by rw [h11]; rfl), h12, c13, (by rw [h14]; rfl), (qmP x hx ((qax r.stamp).1) ((qai x r.key r.val).1) ((qai x r.key r.val).2.1) _), trivial⟩
              · skip
                rw [show qar g cs r x = (((qak x.kind cs (⟨r.op, r.stamp.epoch, r.key, r.val⟩ : Cell)).1), ([] : List Record), true) from by grind [qar, qaH, qak]]
                exact qBD _ _ _ _ _ _ _ _ _ _ _ _ _ _ _ _ _ _ _ _ _ _ _ _ _ ⟨(by first | omega | (simp only [List.length_map, List.length_nil]; omega) | exact qaf _ Cell.flat _ | grind [inInt]), (by first | omega | (simp only [List.length_map, List.length_nil]; omega) | exact qaf _ Cell.flat _ | grind [inInt]), (by first | omega | (simp only [List.length_map, List.length_nil]; omega) | exact qaf _ Cell.flat _ | grind [inInt]), c1, rfl, c2, (by rw [h3]; rfl), c4, (by rw [h5]; rfl), c6, (by rw [h7]; rfl), c8, h9, c10, (by rw [h11]; rfl), h12, c13, (by rw [h14]; rfl), trivial⟩
            · skip
              
              rw [show qar g cs r x = (((qak x.kind cs (⟨r.op, r.stamp.epoch, r.key, r.val⟩ : Cell)).1), (sends x r.stamp ((qai x r.key r.val).1) ((qai x r.key r.val).2.1)), true) from by grind [qar, qaH, qak]]
              exact qBF _ _ _ _ _ _ _ _ _ _ _ _ _ _ _ _ _ _ _ _ _ _ _ ⟨(by first | omega | (simp only [List.length_map, List.length_nil]; omega) | exact qaf _ Cell.flat _ | grind [inInt]), (by first | omega | (simp only [List.length_map, List.length_nil]; omega) | exact qaf _ Cell.flat _ | grind [inInt]), (by first | omega | (simp only [List.length_map, List.length_nil]; omega) | exact qaf _ Cell.flat _ | grind [inInt]), c1, rfl, c2, (by rw [h3]; rfl), c4, (by rw [h5]; rfl), c6, (by rw [h7]; rfl), c8, h9, c10, (by rw [h11]; rfl), h12, (qmQ x hx r.stamp ((qai x r.key r.val).1) ((qai x r.key r.val).2.1) _), trivial⟩
          · skip
            rw [show qar g cs r x = (((qak x.kind cs (⟨r.op, r.stamp.epoch, r.key, r.val⟩ : Cell)).1), ([] : List Record), true) from by grind [qar, qaH, qak]]
            exact qBC _ _ _ _ _ _ _ _ _ _ _ _ _ _ _ _ _ _ _ _ _ _ ⟨(by first | omega | (simp only [List.length_map, List.length_nil]; omega) | exact qaf _ Cell.flat _ | grind [inInt]), (by first | omega | (simp only [List.length_map, List.length_nil]; omega) | exact qaf _ Cell.flat _ | grind [inInt]), (by first | omega | (simp only [List.length_map, List.length_nil]; omega) | exact qaf _ Cell.flat _ | grind [inInt]), c1, rfl, c2, (by rw [h3]; rfl), c4, (by rw [h5]; rfl), c6, (by rw [h7]; rfl), c8, h9, c10, (by rw [h11]; rfl), trivial⟩
        · skip
          rcases Bool.eq_false_or_eq_true (x.kind == 7) with h15 | h15
          · skip
            have c16 := qgT r.stamp
            rcases Bool.eq_false_or_eq_true ((qax r.stamp).2) with h17 | h17
            · skip
              
              rw [show qar g cs r x = (cs, (sends x ((qax r.stamp).1) ((qai x r.key r.val).1) ((qai x r.key r.val).2.1)), true) from by grind [qar, qaH, qak]]
              exact qBH _ _ _ _ _ _ _ _ _ _ _ _ _ _ _ _ _ _ _ _ _ _ _ _ ⟨(by first | omega | (simp only [List.length_map, List.length_nil]; omega) | exact qaf _ Cell.flat _ | grind [inInt]), (by first | omega | (simp only [List.length_map, List.length_nil]; omega) | exact qaf _ Cell.flat _ | grind [inInt]), (by first | omega | (simp only [List.length_map, List.length_nil]; omega) | exact qaf _ Cell.flat _ | grind [inInt]), c1, rfl, c2, (by rw [h3]; rfl), c4, (by rw [h5]; rfl), c6, (by rw [h7]; rfl), c8, h9, h15, c16, (by rw [h17]; rfl), (qmR x hx ((qax r.stamp).1) ((qai x r.key r.val).1) ((qai x r.key r.val).2.1) _), trivial⟩
            · skip
              rw [show qar g cs r x = (cs, ([] : List Record), true) from by grind [qar, qaH, qak]]
              exact qBG _ _ _ _ _ _ _ _ _ _ _ _ _ _ _ _ _ _ _ _ _ _ _ ⟨(by first | omega | (simp only [List.length_map, List.length_nil]; omega) | exact qaf _ Cell.flat _ | grind [inInt]), (by first | omega | (simp only [List.length_map, List.length_nil]; omega) | exact qaf _ Cell.flat _ | grind [inInt]), (by first | omega | (simp only [List.length_map, List.length_nil]; omega) | exact qaf _ Cell.flat _ | grind [inInt]), c1, rfl, c2, (by rw [h3]; rfl), c4, (by rw [h5]; rfl), c6, (by rw [h7]; rfl), c8, h9, h15, c16, (by rw [h17]; rfl), trivial⟩
          · skip
            
            rw [show qar g cs r x = (cs, (sends x r.stamp ((qai x r.key r.val).1) ((qai x r.key r.val).2.1)), true) from by grind [qar, qaH, qak]]
            exact qBI _ _ _ _ _ _ _ _ _ _ _ _ _ _ _ _ _ _ _ _ _ ⟨(by first | omega | (simp only [List.length_map, List.length_nil]; omega) | exact qaf _ Cell.flat _ | grind [inInt]), (by first | omega | (simp only [List.length_map, List.length_nil]; omega) | exact qaf _ Cell.flat _ | grind [inInt]), (by first | omega | (simp only [List.length_map, List.length_nil]; omega) | exact qaf _ Cell.flat _ | grind [inInt]), c1, rfl, c2, (by rw [h3]; rfl), c4, (by rw [h5]; rfl), c6, (by rw [h7]; rfl), c8, h9, h15, (qmS x hx r.stamp ((qai x r.key r.val).1) ((qai x r.key r.val).2.1) _), trivial⟩
      · skip
        rcases Bool.eq_false_or_eq_true (x.kind != 8) with h18 | h18
        · skip
          rw [show qar g cs r x = (cs, ([] : List Record), true) from by grind [qar, qaH, qak]]
          exact qBm _ _ _ _ _ _ _ _ _ _ _ _ _ _ _ _ _ _ _ ⟨(by first | omega | (simp only [List.length_map, List.length_nil]; omega) | exact qaf _ Cell.flat _ | grind [inInt]), (by first | omega | (simp only [List.length_map, List.length_nil]; omega) | exact qaf _ Cell.flat _ | grind [inInt]), (by first | omega | (simp only [List.length_map, List.length_nil]; omega) | exact qaf _ Cell.flat _ | grind [inInt]), c1, rfl, c2, (by rw [h3]; rfl), c4, (by rw [h5]; rfl), c6, (by rw [h7]; rfl), h18, trivial⟩
        · skip
          have c19 := qmN x.kind
          rcases Bool.eq_false_or_eq_true (qaH x.kind) with h20 | h20
          · skip
            have c21 := qjG x.kind cs (⟨r.op, r.stamp.epoch, r.key, r.val⟩ : Cell) (by omega)
            rcases Bool.eq_false_or_eq_true ((qak x.kind cs (⟨r.op, r.stamp.epoch, r.key, r.val⟩ : Cell)).2) with h22 | h22
            · skip
              rcases Bool.eq_false_or_eq_true (x.kind == 7) with h23 | h23
              · skip
                have c24 := qgT r.stamp
                rcases Bool.eq_false_or_eq_true ((qax r.stamp).2) with h25 | h25
                · skip
                  
                  rw [show qar g cs r x = (((qak x.kind cs (⟨r.op, r.stamp.epoch, r.key, r.val⟩ : Cell)).1), (sends x ((qax r.stamp).1) ((qai x r.key r.val).1) ((qai x r.key r.val).2.1)), true) from by grind [qar, qaH, qak]]
                  exact qBr _ _ _ _ _ _ _ _ _ _ _ _ _ _ _ _ _ _ _ _ _ _ _ _ _ _ ⟨(by first | omega | (simp only [List.length_map, List.length_nil]; omega) | exact qaf _ Cell.flat _ | grind [inInt]), (by first | omega | (simp only [List.length_map, List.length_nil]; omega) | exact qaf _ Cell.flat _ | grind [inInt]), (by first | omega | (simp only [List.length_map, List.length_nil]; omega) | exact qaf _ Cell.flat _ | grind [inInt]), c1, rfl, c2, (by rw [h3]; rfl), c4, (by rw [h5]; rfl), c6, (by rw [h7]; rfl), h18, c19, h20, c21, (by rw [h22]; rfl), h23, c24, (by rw [h25]; rfl), (qmP x hx ((qax r.stamp).1) ((qai x r.key r.val).1) ((qai x r.key r.val).2.1) _), trivial⟩
                · skip
                  rw [show qar g cs r x = (((qak x.kind cs (⟨r.op, r.stamp.epoch, r.key, r.val⟩ : Cell)).1), ([] : List Record), true) from by grind [qar, qaH, qak]]
                  exact qBo _ _ _ _ _ _ _ _ _ _ _ _ _ _ _ _ _ _ _ _ _ _ _ _ _ ⟨(by first | omega | (simp only [List.length_map, List.length_nil]; omega) | exact qaf _ Cell.flat _ | grind [inInt]), (by first | omega | (simp only [List.length_map, List.length_nil]; omega) | exact qaf _ Cell.flat _ | grind [inInt]), (by first | omega | (simp only [List.length_map, List.length_nil]; omega) | exact qaf _ Cell.flat _ | grind [inInt]), c1, rfl, c2, (by rw [h3]; rfl), c4, (by rw [h5]; rfl), c6, (by rw [h7]; rfl), h18, c19, h20, c21, (by rw [h22]; rfl), h23, c24, (by rw [h25]; rfl), trivial⟩
              · skip
                
                rw [show qar g cs r x = (((qak x.kind cs (⟨r.op, r.stamp.epoch, r.key, r.val⟩ : Cell)).1), (sends x r.stamp ((qai x r.key r.val).1) ((qai x r.key r.val).2.1)), true) from by grind [qar, qaH, qak]]
                exact qBu _ _ _ _ _ _ _ _ _ _ _ _ _ _ _ _ _ _ _ _ _ _ _ ⟨(by first | omega | (simp only [List.length_map, List.length_nil]; omega) | exact qaf _ Cell.flat _ | grind [inInt]), (by first | omega | (simp only [List.length_map, List.length_nil]; omega) | exact qaf _ Cell.flat _ | grind [inInt]), (by first | omega | (simp only [List.length_map, List.length_nil]; omega) | exact qaf _ Cell.flat _ | grind [inInt]), c1, rfl, c2, (by rw [h3]; rfl), c4, (by rw [h5]; rfl), c6, (by rw [h7]; rfl), h18, c19, h20, c21, (by rw [h22]; rfl), h23, (qmQ x hx r.stamp ((qai x r.key r.val).1) ((qai x r.key r.val).2.1) _), trivial⟩
            · skip
              rw [show qar g cs r x = (((qak x.kind cs (⟨r.op, r.stamp.epoch, r.key, r.val⟩ : Cell)).1), ([] : List Record), true) from by grind [qar, qaH, qak]]
              exact qBn _ _ _ _ _ _ _ _ _ _ _ _ _ _ _ _ _ _ _ _ _ _ ⟨(by first | omega | (simp only [List.length_map, List.length_nil]; omega) | exact qaf _ Cell.flat _ | grind [inInt]), (by first | omega | (simp only [List.length_map, List.length_nil]; omega) | exact qaf _ Cell.flat _ | grind [inInt]), (by first | omega | (simp only [List.length_map, List.length_nil]; omega) | exact qaf _ Cell.flat _ | grind [inInt]), c1, rfl, c2, (by rw [h3]; rfl), c4, (by rw [h5]; rfl), c6, (by rw [h7]; rfl), h18, c19, h20, c21, (by rw [h22]; rfl), trivial⟩
          · skip
            rcases Bool.eq_false_or_eq_true (x.kind == 7) with h26 | h26
            · skip
              have c27 := qgT r.stamp
              rcases Bool.eq_false_or_eq_true ((qax r.stamp).2) with h28 | h28
              · skip
                
                rw [show qar g cs r x = (cs, (sends x ((qax r.stamp).1) ((qai x r.key r.val).1) ((qai x r.key r.val).2.1)), true) from by grind [qar, qaH, qak]]
                exact qBy _ _ _ _ _ _ _ _ _ _ _ _ _ _ _ _ _ _ _ _ _ _ _ _ ⟨(by first | omega | (simp only [List.length_map, List.length_nil]; omega) | exact qaf _ Cell.flat _ | grind [inInt]), (by first | omega | (simp only [List.length_map, List.length_nil]; omega) | exact qaf _ Cell.flat _ | grind [inInt]), (by first | omega | (simp only [List.length_map, List.length_nil]; omega) | exact qaf _ Cell.flat _ | grind [inInt]), c1, rfl, c2, (by rw [h3]; rfl), c4, (by rw [h5]; rfl), c6, (by rw [h7]; rfl), h18, c19, h20, h26, c27, (by rw [h28]; rfl), (qmR x hx ((qax r.stamp).1) ((qai x r.key r.val).1) ((qai x r.key r.val).2.1) _), trivial⟩
              · skip
                rw [show qar g cs r x = (cs, ([] : List Record), true) from by grind [qar, qaH, qak]]
                exact qBv _ _ _ _ _ _ _ _ _ _ _ _ _ _ _ _ _ _ _ _ _ _ _ ⟨(by first | omega | (simp only [List.length_map, List.length_nil]; omega) | exact qaf _ Cell.flat _ | grind [inInt]), (by first | omega | (simp only [List.length_map, List.length_nil]; omega) | exact qaf _ Cell.flat _ | grind [inInt]), (by first | omega | (simp only [List.length_map, List.length_nil]; omega) | exact qaf _ Cell.flat _ | grind [inInt]), c1, rfl, c2, (by rw [h3]; rfl), c4, (by rw [h5]; rfl), c6, (by rw [h7]; rfl), h18, c19, h20, h26, c27, (by rw [h28]; rfl), trivial⟩
            · skip
              
              rw [show qar g cs r x = (cs, (sends x r.stamp ((qai x r.key r.val).1) ((qai x r.key r.val).2.1)), true) from by grind [qar, qaH, qak]]
              exact qBB _ _ _ _ _ _ _ _ _ _ _ _ _ _ _ _ _ _ _ _ _ ⟨(by first | omega | (simp only [List.length_map, List.length_nil]; omega) | exact qaf _ Cell.flat _ | grind [inInt]), (by first | omega | (simp only [List.length_map, List.length_nil]; omega) | exact qaf _ Cell.flat _ | grind [inInt]), (by first | omega | (simp only [List.length_map, List.length_nil]; omega) | exact qaf _ Cell.flat _ | grind [inInt]), c1, rfl, c2, (by rw [h3]; rfl), c4, (by rw [h5]; rfl), c6, (by rw [h7]; rfl), h18, c19, h20, h26, (qmS x hx r.stamp ((qai x r.key r.val).1) ((qai x r.key r.val).2.1) _), trivial⟩
    · skip
      rw [show qar g cs r x = (cs, ([] : List Record), false) from by grind [qar, qaH, qak]]
      exact qBl _ _ _ _ _ _ _ _ _ _ _ _ _ _ _ _ ⟨(by first | omega | (simp only [List.length_map, List.length_nil]; omega) | exact qaf _ Cell.flat _ | grind [inInt]), (by first | omega | (simp only [List.length_map, List.length_nil]; omega) | exact qaf _ Cell.flat _ | grind [inInt]), (by first | omega | (simp only [List.length_map, List.length_nil]; omega) | exact qaf _ Cell.flat _ | grind [inInt]), c1, rfl, c2, (by rw [h3]; rfl), c4, (by rw [h5]; rfl), trivial⟩
  · skip
    rw [show qar g cs r x = (cs, ([] : List Record), false) from by grind [qar, qaH, qak]]
    exact qBk _ _ _ _ _ _ _ _ _ _ _ _ _ _ _ ⟨(by first | omega | (simp only [List.length_map, List.length_nil]; omega) | exact qaf _ Cell.flat _ | grind [inInt]), (by first | omega | (simp only [List.length_map, List.length_nil]; omega) | exact qaf _ Cell.flat _ | grind [inInt]), (by first | omega | (simp only [List.length_map, List.length_nil]; omega) | exact qaf _ Cell.flat _ | grind [inInt]), c1, rfl, c2, (by rw [h3]; rfl), trivial⟩
theorem qB0 (g : Graph) (cs : List Cell) (r : Record) (x : Node) (hg : g.sz ≤ 1048576) (hl : cs.length ≤ 1048576) (hn : qaS g r.op = some x) : Ret prog 67 [.agg g.e, .one (.sl 4 (cs.map Cell.e)), .agg r.e] [.one (.sl 4 ((qar g cs r x).1.map Cell.e)), .one (.sl 5 ((qar g cs r x).2.1.map Record.e)), .one (B (qar g cs r x).2.2)] := by
  have hx := Graph.outs_le hg (qfv hn)
  obtain ⟨hk0, hk2, _, _⟩ := qeb hn
  have hk1 : g.nodes[r.op.toNat]? = some x := by have := hn; unfold qaS at this; rwa [if_pos hk0] at this
  have c1 := qjD g hg
  rcases Bool.eq_false_or_eq_true (qaE g) with h2 | h2
  · skip
    have c3 := qjC r
    rcases Bool.eq_false_or_eq_true (qaR r) with h4 | h4
    · skip
      have c5 := qeO g r.op true (by rw [hn]; rfl) hg
      have c6 := qmH x r.key r.val hx
      rcases Bool.eq_false_or_eq_true ((qai x r.key r.val).2.2) with h7 | h7
      · skip
        have c8 := qmO x.kind cs (⟨r.op, r.stamp.epoch, r.key, r.val⟩ : Cell) (by omega)
        rcases Bool.eq_false_or_eq_true ((qak x.kind cs (⟨r.op, r.stamp.epoch, r.key, r.val⟩ : Cell)).2) with h9 | h9
        · skip
          rcases Bool.eq_false_or_eq_true (x.kind == 7) with h10 | h10
          · skip
            have c11 := qmx r.stamp
            
            rw [show qar g cs r x = (((qak x.kind cs (⟨r.op, r.stamp.epoch, r.key, r.val⟩ : Cell)).1), (bif (qax r.stamp).2 then sends x ((qax r.stamp).1) ((qai x r.key r.val).1) ((qai x r.key r.val).2.1) else []), true) from by grind [qar, qaH, qak]]
            exact qBT _ _ _ _ _ _ _ _ _ _ _ _ _ _ _ _ _ _ _ _ _ _ _ _ _ ⟨c1, (by rw [h2]; rfl), c3, (by rw [h4]; rfl), c5, rfl, (by first | omega | (simp only [List.length_map, List.length_nil]; omega) | exact qaf _ Cell.flat _ | grind [inInt]), (by first | omega | (simp only [List.length_map, List.length_nil]; omega) | exact qaf _ Cell.flat _ | grind [inInt]), (qad Node.e hk1), c6, (by rw [h7]; rfl), c8, (by rw [h9]; rfl), h10, c11, (qmU x hx ((qax r.stamp).2) ((qax r.stamp).1) ((qai x r.key r.val).1) ((qai x r.key r.val).2.1) _), trivial⟩
          · skip
            
            rw [show qar g cs r x = (((qak x.kind cs (⟨r.op, r.stamp.epoch, r.key, r.val⟩ : Cell)).1), (sends x r.stamp ((qai x r.key r.val).1) ((qai x r.key r.val).2.1)), true) from by grind [qar, qaH, qak]]
            exact qBU _ _ _ _ _ _ _ _ _ _ _ _ _ _ _ _ _ _ _ _ _ _ ⟨c1, (by rw [h2]; rfl), c3, (by rw [h4]; rfl), c5, rfl, (by first | omega | (simp only [List.length_map, List.length_nil]; omega) | exact qaf _ Cell.flat _ | grind [inInt]), (by first | omega | (simp only [List.length_map, List.length_nil]; omega) | exact qaf _ Cell.flat _ | grind [inInt]), (qad Node.e hk1), c6, (by rw [h7]; rfl), c8, (by rw [h9]; rfl), h10, (qmT x hx r.stamp ((qai x r.key r.val).1) ((qai x r.key r.val).2.1) _), trivial⟩
        · skip
          rw [show qar g cs r x = (((qak x.kind cs (⟨r.op, r.stamp.epoch, r.key, r.val⟩ : Cell)).1), ([] : List Record), true) from by grind [qar, qaH, qak]]
          exact qBS _ _ _ _ _ _ _ _ _ _ _ _ _ _ _ _ _ _ _ _ _ ⟨c1, (by rw [h2]; rfl), c3, (by rw [h4]; rfl), c5, rfl, (by first | omega | (simp only [List.length_map, List.length_nil]; omega) | exact qaf _ Cell.flat _ | grind [inInt]), (by first | omega | (simp only [List.length_map, List.length_nil]; omega) | exact qaf _ Cell.flat _ | grind [inInt]), (qad Node.e hk1), c6, (by rw [h7]; rfl), c8, (by rw [h9]; rfl), trivial⟩
      · skip
        rcases Bool.eq_false_or_eq_true (x.kind != 8) with h12 | h12
        · skip
          have c13 := qdd cs (by omega)
          rw [show qar g cs r x = (cs, ([] : List Record), true) from by grind [qar, qaH, qak]]
          exact qBK _ _ _ _ _ _ _ _ _ _ _ _ _ _ _ _ _ _ _ _ ⟨c1, (by rw [h2]; rfl), c3, (by rw [h4]; rfl), c5, rfl, (by first | omega | (simp only [List.length_map, List.length_nil]; omega) | exact qaf _ Cell.flat _ | grind [inInt]), (by first | omega | (simp only [List.length_map, List.length_nil]; omega) | exact qaf _ Cell.flat _ | grind [inInt]), (qad Node.e hk1), c6, (by rw [h7]; rfl), h12, c13, trivial⟩
        · skip
          have c14 := qmO x.kind cs (⟨r.op, r.stamp.epoch, r.key, r.val⟩ : Cell) (by omega)
          rcases Bool.eq_false_or_eq_true ((qak x.kind cs (⟨r.op, r.stamp.epoch, r.key, r.val⟩ : Cell)).2) with h15 | h15
          · skip
            rcases Bool.eq_false_or_eq_true (x.kind == 7) with h16 | h16
            · skip
              have c17 := qmx r.stamp
              
              rw [show qar g cs r x = (((qak x.kind cs (⟨r.op, r.stamp.epoch, r.key, r.val⟩ : Cell)).1), (bif (qax r.stamp).2 then sends x ((qax r.stamp).1) ((qai x r.key r.val).1) ((qai x r.key r.val).2.1) else []), true) from by grind [qar, qaH, qak]]
              exact qBO _ _ _ _ _ _ _ _ _ _ _ _ _ _ _ _ _ _ _ _ _ _ _ _ _ ⟨c1, (by rw [h2]; rfl), c3, (by rw [h4]; rfl), c5, rfl, (by first | omega | (simp only [List.length_map, List.length_nil]; omega) | exact qaf _ Cell.flat _ | grind [inInt]), (by first | omega | (simp only [List.length_map, List.length_nil]; omega) | exact qaf _ Cell.flat _ | grind [inInt]), (qad Node.e hk1), c6, (by rw [h7]; rfl), h12, c14, (by rw [h15]; rfl), h16, c17, (qmU x hx ((qax r.stamp).2) ((qax r.stamp).1) ((qai x r.key r.val).1) ((qai x r.key r.val).2.1) _), trivial⟩
            · skip
              
              rw [show qar g cs r x = (((qak x.kind cs (⟨r.op, r.stamp.epoch, r.key, r.val⟩ : Cell)).1), (sends x r.stamp ((qai x r.key r.val).1) ((qai x r.key r.val).2.1)), true) from by grind [qar, qaH, qak]]
              exact qBR _ _ _ _ _ _ _ _ _ _ _ _ _ _ _ _ _ _ _ _ _ _ ⟨c1, (by rw [h2]; rfl), c3, (by rw [h4]; rfl), c5, rfl, (by first | omega | (simp only [List.length_map, List.length_nil]; omega) | exact qaf _ Cell.flat _ | grind [inInt]), (by first | omega | (simp only [List.length_map, List.length_nil]; omega) | exact qaf _ Cell.flat _ | grind [inInt]), (qad Node.e hk1), c6, (by rw [h7]; rfl), h12, c14, (by rw [h15]; rfl), h16, (qmT x hx r.stamp ((qai x r.key r.val).1) ((qai x r.key r.val).2.1) _), trivial⟩
          · skip
            rw [show qar g cs r x = (((qak x.kind cs (⟨r.op, r.stamp.epoch, r.key, r.val⟩ : Cell)).1), ([] : List Record), true) from by grind [qar, qaH, qak]]
            exact qBL _ _ _ _ _ _ _ _ _ _ _ _ _ _ _ _ _ _ _ _ _ ⟨c1, (by rw [h2]; rfl), c3, (by rw [h4]; rfl), c5, rfl, (by first | omega | (simp only [List.length_map, List.length_nil]; omega) | exact qaf _ Cell.flat _ | grind [inInt]), (by first | omega | (simp only [List.length_map, List.length_nil]; omega) | exact qaf _ Cell.flat _ | grind [inInt]), (qad Node.e hk1), c6, (by rw [h7]; rfl), h12, c14, (by rw [h15]; rfl), trivial⟩
    · skip
      have c18 := qdd cs (by omega)
      rw [show qar g cs r x = (cs, ([] : List Record), false) from by grind [qar, qaH, qak]]
      exact qmL _ _ _ _ _ _ _ _ _ _ _ _ ⟨c1, (by rw [h2]; rfl), c3, (by rw [h4]; rfl), c18, trivial⟩
  · skip
    have c19 := qdd cs (by omega)
    rw [show qar g cs r x = (cs, ([] : List Record), false) from by grind [qar, qaH, qak]]
    exact qmK _ _ _ _ _ _ _ _ _ _ _ ⟨c1, (by rw [h2]; rfl), c19, trivial⟩
end Go.Proofs.YtialmplmfcahpaaGreat
