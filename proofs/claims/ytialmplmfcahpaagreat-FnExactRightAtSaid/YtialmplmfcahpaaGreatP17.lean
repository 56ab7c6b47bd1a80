/- slices.DeleteFunc, Recall, StepOp: what program and reference compute (cases put together by gentree.py). -/
import Derived.Test.YtialmplmfcahpaaGreatP16
import Derived.Test.YtialmplmfcahpaaGreatC3
import Derived.Test.YtialmplmfcahpaaGreatGS
set_option linter.unusedVariables false
set_option linter.unusedSimpArgs false
namespace Go.Proofs.YtialmplmfcahpaaGreat
open Go.Sx Go.RowKit
theorem qBv {P : Program} {f : Nat} {args : List GA} {k : Nat} {l l' : List (List D)} (h : RetG P f args [.one (.sl k l)]) (hl : l = l') : RetG P f args [.one (.sl k l')] := hl ▸ h
theorem qjx (xs : List Cell) (p : Cell → Bool) (g : Nat) (caps : List D) (hl : xs.length ≤ 1048576) (hc : qbk Tryz.prog g = true) (hp : ∀ x ∈ xs, ∀ r, p x = r → Ret Tryz.prog g ([.agg x.e] ++ caps.map .one) [.one (B r)]) :
    ∀ (n i : Nat) (ys : List Cell), n + i = xs.length → ys.length = xs.length → ys.drop i = xs.drop i → ys.take ((xs.take i).filter fun a => !p a).length = (xs.take i).filter (fun a => !p a) →
    ∃ zs : List Cell, qac Tryz.prog (qaa Tryz.f296 0) (qdb g caps i ((xs.take i).filter fun a => !p a).length (ys.map Cell.e)) (.exit 0) (qgu (zs.map Cell.e) (xs.filter fun a => !p a).length) ∧ zs.length = xs.length ∧ zs.take (xs.filter fun a => !p a).length = xs.filter (fun a => !p a)
  | 0, i, ys, hi, hy, _, ht => by
    have e : xs.take i = xs := List.take_of_length_le (by omega)
    rw [e] at ht ⊢
    exact ⟨ys, .last (qah 0) (quK _ _ _ _ _ ⟨dF (by simp; omega), trivial⟩), hy, ht⟩
  | n + 1, i, ys, hi, hy, hd, ht => by
    obtain ⟨a, ha⟩ := qag (xs := xs) (i := i) (by omega)
    have hya : ys[i]? = some a := by
      have e1 : ys[i]? = (ys.drop i)[0]? := by simp
      have e2 : xs[i]? = (xs.drop i)[0]? := by simp
      rw [e1, hd, ← e2, ha]
    have hf := qcg (fun a => !p a) ha
    have hle := qcS (fun a => !p a) xs i
    have hdn : ys.drop (i + 1) = xs.drop (i + 1) := by
      have := congrArg (List.drop 1) hd
      simpa [List.drop_drop, Nat.add_comm] using this
    cases h : p a with
    | true =>
      rw [h] at hf
      simp only [Bool.not_true, Bool.false_eq_true, if_false, List.append_nil] at hf
      obtain ⟨zs, h1, h2, h3⟩ := qjx xs p g caps hl hc hp n (i + 1) ys (by omega) hy hdn (by rw [hf]; exact ht)
      rw [hf] at h1
      exact ⟨zs, .more (quJ _ _ _ _ _ _ _ _ _ _ ⟨dT (by simp; omega), lt0, by simp; omega, qae Cell.e hya, hc, hp a (qaG ha) true h, rfl, ⟨by omega, by omega⟩, trivial⟩) h1, h2, h3⟩
    | false =>
      rw [h] at hf
      simp only [Bool.not_false, if_true] at hf
      generalize hj : ((xs.take i).filter fun a => !p a).length = j at *
      obtain ⟨b, hb⟩ := qag (xs := ys) (i := j) (by omega)
      obtain ⟨zs, h1, h2, h3⟩ := qjx xs p g caps hl hc hp n (i + 1) (ys.set j a) (by omega) (by simpa using hy) (by rw [List.drop_set_of_lt (by omega)]; exact hdn) (by
        rw [hf, List.length_append, hj, List.length_singleton, List.take_set, ← ht]
        have hjl : j < ys.length := by omega
        rw [List.take_succ_eq_append_getElem hjl, List.set_append_right _ _ (by simp; omega)]
        simp [List.length_take, Nat.min_eq_left (Nat.le_of_lt hjl)])
      rw [hf, List.length_append, hj, List.length_singleton] at h1
      refine ⟨zs, .more (tr_to (fun l => qdb g caps ((i + 1 : Nat) : Int) ((j + 1 : Nat) : Int) l) (quI _ _ _ _ _ _ _ _ _ _ _ _ _ _ ⟨dT (by simp; omega), lt0, by simp; omega, qae Cell.e hya, hc, hp a (qaG ha) false h, rfl, lt0, by simp; omega, qae Cell.e hb, ⟨by omega, by omega⟩, ⟨by omega, by omega⟩, trivial⟩) ?_) h1, h2, h3⟩
      show List.set _ _ a.e = _
      rw [Int.toNat_natCast, ← List.map_set]
theorem qBw (xs : List Cell) (p : Cell → Bool) (g : Nat) (caps : List D) (hl : xs.length ≤ 1048576) (hc : qbk Tryz.prog g = true) (hp : ∀ x ∈ xs, Ret Tryz.prog g ([.agg x.e] ++ caps.map .one) [.one (B (p x))]) :
    RetG Tryz.prog 296 [.one (.gv 4 (xs.map Cell.e) none), .one (.ro (.cl g caps))] [.one (.sl 4 ((xs.filter fun a => !p a).map Cell.e))] := by
  have hp' : ∀ x ∈ xs, ∀ r, p x = r → Ret Tryz.prog g ([.agg x.e] ++ caps.map .one) [.one (B r)] := fun x hx r h => h ▸ hp x hx
  have ix := qAS xs p g caps hl hc hp
  unfold idxI at ix
  cases h : xs.findIdx? p with
  | none =>
    rw [h] at ix
    rw [List.findIdx?_eq_none_iff] at h
    have e : (xs.filter fun a => !p a) = xs := List.filter_eq_self.2 fun a ha => by simp [h a ha]
    rw [e]
    exact quH _ _ _ _ ⟨ix, rfl, trivial⟩
  | some i =>
    rw [h] at ix
    change Ret _ _ _ [.one (I (i : Int))] at ix
    rw [List.findIdx?_eq_some_iff_getElem] at h
    obtain ⟨hi, h2, h3⟩ := h
    have hx : xs[i]? = some xs[i] := List.getElem?_eq_getElem hi
    have e0 : (xs.take i).filter (fun a => !p a) = xs.take i := List.filter_eq_self.2 fun a ha => by
      obtain ⟨j, hj, rfl⟩ := List.getElem_of_mem ha
      have hji : j < i := by simp at hj; omega
      have := h3 j hji
      simpa using this
    have e1 := qcg (fun a => !p a) hx
    rw [h2] at e1
    simp only [Bool.not_true, Bool.false_eq_true, if_false, List.append_nil] at e1
    rw [e0] at e1
    have e2 : (xs.take i).length = i := by rw [List.length_take]; omega
    obtain ⟨zs, l, hz, ht⟩ := qjx xs p g caps hl hc hp' (xs.length - (i + 1)) (i + 1) xs (by omega) rfl rfl (by rw [e1, e2])
    rw [e1, e2] at l
    have hlt : (xs.filter fun a => !p a).length < xs.length := by
      have e3 : xs.filter (fun a => !p a) = xs.take i ++ (xs.drop (i + 1)).filter fun a => !p a := by
        have := List.take_append_drop (i + 1) xs
        rw [← this, List.filter_append, this, e1]
      rw [e3, List.length_append, e2]
      have := List.length_filter_le (fun a => !p a) (xs.drop (i + 1))
      rw [List.length_drop] at this
      omega
    generalize xs.filter (fun a => !p a) = fs at *
    refine qBv (quL _ _ _ _ _ _ ⟨ix, beq_eq_false_iff_ne.2 (by omega), ⟨by omega, by omega⟩, l, by simp, by simp; omega, qaf _ Cell.flat _, by simp, by simp, by simp; omega, trivial⟩) ?_
    simp only [Option.getD_some, Int.toNat_natCast, Nat.sub_zero, List.drop_zero, ← List.map_take]
    rw [ht, List.take_append_of_le_length (by simp), List.take_of_length_le (by simp)]
def qaF (xs : List Cell) (x : Cell) : List Cell × Bool :=
  if (qbu xs x.op x.epoch x.key).2 && decide ((qbu xs x.op x.epoch x.key).1 ≤ x.val) then (xs, false) else (qa3 (xs.filter fun a => !qas x a) x, true)
def qak (kind : Int) (xs : List Cell) (x : Cell) : List Cell × Bool :=
  if kind = 6 then (if qbq xs x then (xs, false) else (qa3 xs x, true))
  else if kind = 5 ∨ kind = 8 then qaF xs x
  else (xs, true)
theorem qjy (xs : List Cell) (x : Cell) (hl : xs.length ≤ 1048576) : Ret Tryz.prog 254 [.one (.sl 4 (xs.map Cell.e)), .agg x.e] [.one (.sl 4 ((qaF xs x).1.map Cell.e)), .one (B (qaF xs x).2)] := by
  have c := qAR xs x.op x.epoch x.key hl
  have cp := qdc xs hl
  have d := qBw xs (qas x) 297 [D.ptr x.e] hl (by kernel_rfl) (fun y _ => quG _ _ _ _ _ _ _ _ _ ⟨qmk x y, trivial⟩)
  have pc := qjl (xs.filter fun a => !qas x a) x (Nat.le_trans (List.length_filter_le ..) hl)
  unfold qaF
  generalize qbu xs x.op x.epoch x.key = m at *
  obtain ⟨v, f⟩ := m
  cases f with
  | false => exact quU _ _ _ _ _ _ _ _ _ _ ⟨c, rfl, cp, d, pc, trivial⟩
  | true =>
    by_cases h : v ≤ x.val
    · rw [dT h]
      exact quS _ _ _ _ _ _ _ _ ⟨c, rfl, dT h, cp, trivial⟩
    · rw [dF h]
      exact quT _ _ _ _ _ _ _ _ _ _ ⟨c, rfl, dF h, cp, d, pc, trivial⟩
theorem qBx (xs acc : List Cell) (x : Cell) (hl : xs.length ≤ 1048576) (i : Nat) (hc : acc.length ≤ i) (a : Cell) (ha : xs[i]? = some a) : Tr Tryz.prog (qaa Tryz.f144 0) (qbi (xs.map Cell.e) x.op x.epoch x.key x.val i (acc.map Cell.e)) .normal (qbi (xs.map Cell.e) x.op x.epoch x.key x.val ((i + 1 : Nat) : Int) ((acc ++ (bif qas x a then [] else [a])).map Cell.e)) := by
  have hj := lt_of ha
  have hk1 : xs[(i : Int).toNat]? = some a := by simpa using ha
  have hj1 : decide ((i : Int) < (↑(xs.map Cell.e).length : Int)) = true := lt1 hj
  rcases Bool.eq_false_or_eq_true (a.op != x.op) with h1 | h1
  · skip
    have hs : qas x a = false := by grind [qas]
    rw [hs]
    rw [show (acc ++ (bif false then [] else [a])).map Cell.e = acc.map Cell.e ++ [a.e] from by simp]
    exact qvI _ _ _ _ _ _ _ _ _ _ _ _ _ _ _ ⟨hj1, (by first | omega | (simp only [List.length_map, List.length_cons, List.length_nil]; omega) | exact qat a.flat | (exact ⟨by omega, by omega⟩)), (by first | omega | (simp only [List.length_map, List.length_cons, List.length_nil]; omega) | exact qat a.flat | (exact ⟨by omega, by omega⟩)), (qad Cell.e hk1), h1, (by first | omega | (simp only [List.length_map, List.length_cons, List.length_nil]; omega) | exact qat a.flat | (exact ⟨by omega, by omega⟩)), (by first | omega | (simp only [List.length_map, List.length_cons, List.length_nil]; omega) | exact qat a.flat | (exact ⟨by omega, by omega⟩)), (qad Cell.e hk1), (by first | omega | (simp only [List.length_map, List.length_cons, List.length_nil]; omega) | exact qat a.flat | (exact ⟨by omega, by omega⟩)), (by first | omega | (simp only [List.length_map, List.length_cons, List.length_nil]; omega) | exact qat a.flat | (exact ⟨by omega, by omega⟩)), (by first | omega | (simp only [List.length_map, List.length_cons, List.length_nil]; omega) | exact qat a.flat | (exact ⟨by omega, by omega⟩)), (by first | omega | (simp only [List.length_map, List.length_cons, List.length_nil]; omega) | exact qat a.flat | (exact ⟨by omega, by omega⟩)), trivial⟩
  · skip
    rcases Bool.eq_false_or_eq_true (a.epoch != x.epoch) with h2 | h2
    · skip
      have hs : qas x a = false := by grind [qas]
      rw [hs]
      rw [show (acc ++ (bif false then [] else [a])).map Cell.e = acc.map Cell.e ++ [a.e] from by simp]
      exact qvJ _ _ _ _ _ _ _ _ _ _ _ _ _ _ _ _ _ _ _ ⟨hj1, (by first | omega | (simp only [List.length_map, List.length_cons, List.length_nil]; omega) | exact qat a.flat | (exact ⟨by omega, by omega⟩)), (by first | omega | (simp only [List.length_map, List.length_cons, List.length_nil]; omega) | exact qat a.flat | (exact ⟨by omega, by omega⟩)), (qad Cell.e hk1), h1, (by first | omega | (simp only [List.length_map, List.length_cons, List.length_nil]; omega) | exact qat a.flat | (exact ⟨by omega, by omega⟩)), (by first | omega | (simp only [List.length_map, List.length_cons, List.length_nil]; omega) | exact qat a.flat | (exact ⟨by omega, by omega⟩)), (qad Cell.e hk1), h2, (by first | omega | (simp only [List.length_map, List.length_cons, List.length_nil]; omega) | exact qat a.flat | (exact ⟨by omega, by omega⟩)), (by first | omega | (simp only [List.length_map, List.length_cons, List.length_nil]; omega) | exact qat a.flat | (exact ⟨by omega, by omega⟩)), (qad Cell.e hk1), (by first | omega | (simp only [List.length_map, List.length_cons, List.length_nil]; omega) | exact qat a.flat | (exact ⟨by omega, by omega⟩)), (by first | omega | (simp only [List.length_map, List.length_cons, List.length_nil]; omega) | exact qat a.flat | (exact ⟨by omega, by omega⟩)), (by first | omega | (simp only [List.length_map, List.length_cons, List.length_nil]; omega) | exact qat a.flat | (exact ⟨by omega, by omega⟩)), (by first | omega | (simp only [List.length_map, List.length_cons, List.length_nil]; omega) | exact qat a.flat | (exact ⟨by omega, by omega⟩)), trivial⟩
    · skip
      rcases Bool.eq_false_or_eq_true (a.key != x.key) with h3 | h3
      · skip
        have hs : qas x a = false := by grind [qas]
        rw [hs]
        rw [show (acc ++ (bif false then [] else [a])).map Cell.e = acc.map Cell.e ++ [a.e] from by simp]
        exact qvK _ _ _ _ _ _ _ _ _ _ _ _ _ _ _ _ _ _ _ _ _ _ _ ⟨hj1, (by first | omega | (simp only [List.length_map, List.length_cons, List.length_nil]; omega) | exact qat a.flat | (exact ⟨by omega, by omega⟩)), (by first | omega | (simp only [List.length_map, List.length_cons, List.length_nil]; omega) | exact qat a.flat | (exact ⟨by omega, by omega⟩)), (qad Cell.e hk1), h1, (by first | omega | (simp only [List.length_map, List.length_cons, List.length_nil]; omega) | exact qat a.flat | (exact ⟨by omega, by omega⟩)), (by first | omega | (simp only [List.length_map, List.length_cons, List.length_nil]; omega) | exact qat a.flat | (exact ⟨by omega, by omega⟩)), (qad Cell.e hk1), h2, (by first | omega | (simp only [List.length_map, List.length_cons, List.length_nil]; omega) | exact qat a.flat | (exact ⟨by omega, by omega⟩)), (by first | omega | (simp only [List.length_map, List.length_cons, List.length_nil]; omega) | exact qat a.flat | (exact ⟨by omega, by omega⟩)), (qad Cell.e hk1), h3, (by first | omega | (simp only [List.length_map, List.length_cons, List.length_nil]; omega) | exact qat a.flat | (exact ⟨by omega, by omega⟩)), (by first | omega | (simp only [List.length_map, List.length_cons, List.length_nil]; omega) | exact qat a.flat | (exact ⟨by omega, by omega⟩)), (qad Cell.e hk1), (by first | omega | (simp only [List.length_map, List.length_cons, List.length_nil]; omega) | exact qat a.flat | (exact ⟨by omega, by omega⟩)), (by first | omega | (simp only [List.length_map, List.length_cons, List.length_nil]; omega) | exact qat a.flat | (exact ⟨by omega, by omega⟩)), (by first | omega | (simp only [List.length_map, List.length_cons, List.length_nil]; omega) | exact qat a.flat | (exact ⟨by omega, by omega⟩)), (by first | omega | (simp only [List.length_map, List.length_cons, List.length_nil]; omega) | exact qat a.flat | (exact ⟨by omega, by omega⟩)), trivial⟩
      · skip
        have hs : qas x a = true := by grind [qas]
        rw [hs]
        rw [show (acc ++ (bif true then [] else [a])).map Cell.e = acc.map Cell.e from by simp]
        exact qvL _ _ _ _ _ _ _ _ _ _ _ _ _ _ _ _ _ _ _ ⟨hj1, (by first | omega | (simp only [List.length_map, List.length_cons, List.length_nil]; omega) | exact qat a.flat | (exact ⟨by omega, by omega⟩)), (by first | omega | (simp only [List.length_map, List.length_cons, List.length_nil]; omega) | exact qat a.flat | (exact ⟨by omega, by omega⟩)), (qad Cell.e hk1), h1, (by first | omega | (simp only [List.length_map, List.length_cons, List.length_nil]; omega) | exact qat a.flat | (exact ⟨by omega, by omega⟩)), (by first | omega | (simp only [List.length_map, List.length_cons, List.length_nil]; omega) | exact qat a.flat | (exact ⟨by omega, by omega⟩)), (qad Cell.e hk1), h2, (by first | omega | (simp only [List.length_map, List.length_cons, List.length_nil]; omega) | exact qat a.flat | (exact ⟨by omega, by omega⟩)), (by first | omega | (simp only [List.length_map, List.length_cons, List.length_nil]; omega) | exact qat a.flat | (exact ⟨by omega, by omega⟩)), (qad Cell.e hk1), h3, (by first | omega | (simp only [List.length_map, List.length_cons, List.length_nil]; omega) | exact qat a.flat | (exact ⟨by omega, by omega⟩)), trivial⟩
theorem qBy (p : Cell → Bool) {xs : List Cell} {i : Nat} {a : Cell} (h : xs[i]? = some a) : (xs.take (i + 1)).filter (fun b => !p b) = (xs.take i).filter (fun b => !p b) ++ (bif p a then [] else [a]) := by
  rw [qcg _ h]
  cases p a <;> rfl
theorem qgQ (xs : List Cell) (x : Cell) (hl : xs.length ≤ 1048576) : qac Tryz.prog (qaa Tryz.f144 0) (qbi (xs.map Cell.e) x.op x.epoch x.key x.val 0 []) (.exit 1) (qcv x.op x.epoch x.key x.val ((xs.filter fun a => !qas x a).map Cell.e)) := by
  have l := qaj (P := Tryz.prog) (c := (qaa Tryz.f144 0)) (qah 1) xs.length (fun i : Nat => qbi (xs.map Cell.e) x.op x.epoch x.key x.val i (((xs.take i).filter fun a => !qas x a).map Cell.e)) (fun i hi => by
    obtain ⟨a, ha⟩ := qag hi
    rw [qBy (qas x) ha]
    exact qBx xs _ x hl i (qcS _ xs i) a ha) (qvM _ _ _ _ _ _ _ ⟨ge1, trivial⟩)
  rw [List.take_length] at l
  exact l
theorem qjz (kind : Int) (xs : List Cell) (x : Cell) (hl : xs.length ≤ 1048576) : Ret Tryz.prog 144 [.one (I kind), .one (.sl 4 (xs.map Cell.e)), .agg x.e] [.one (.sl 4 (((qak kind xs x).1).map Cell.e)), .one (B ((qak kind xs x).2))] := by
  have hf := List.length_filter_le (fun a => !qas x a) xs
  rcases Bool.eq_false_or_eq_true (kind == 6) with h1 | h1
  · skip
    have c2 := qlT xs x (by omega)
    rcases Bool.eq_false_or_eq_true (qbq xs x) with h3 | h3
    · skip
      rw [show qak kind xs x = (xs, false) from by grind [qak, qaF]]
      exact qvF _ _ _ _ _ _ _ ⟨(by first | omega | (simp only [List.length_map, List.length_nil]; omega) | exact qaf _ Cell.flat _ | grind [inInt]), (by first | omega | (simp only [List.length_map, List.length_nil]; omega) | exact qaf _ Cell.flat _ | grind [inInt]), (by first | omega | (simp only [List.length_map, List.length_nil]; omega) | exact qaf _ Cell.flat _ | grind [inInt]), h1, c2, h3, trivial⟩
    · skip
      have c4 := qeN xs x (by omega)
      rw [show qak kind xs x = ((qa3 xs x), true) from by grind [qak, qaF]]
      exact qvG _ _ _ _ _ _ _ _ ⟨(by first | omega | (simp only [List.length_map, List.length_nil]; omega) | exact qaf _ Cell.flat _ | grind [inInt]), (by first | omega | (simp only [List.length_map, List.length_nil]; omega) | exact qaf _ Cell.flat _ | grind [inInt]), (by first | omega | (simp only [List.length_map, List.length_nil]; omega) | exact qaf _ Cell.flat _ | grind [inInt]), h1, c2, h3, c4, trivial⟩
  · skip
    rcases Bool.eq_false_or_eq_true (kind == 5) with h5 | h5
    · skip
      have c6 := qml xs x.op x.epoch x.key (by omega)
      rcases Bool.eq_false_or_eq_true ((qbu xs x.op x.epoch x.key).2) with h7 | h7
      · skip
        rcases Bool.eq_false_or_eq_true (decide (((qbu xs x.op x.epoch x.key).1) ≤ x.val)) with h8 | h8
        · skip
          rw [show qak kind xs x = (xs, false) from by grind [qak, qaF]]
          exact qvH _ _ _ _ _ _ _ _ ⟨(by first | omega | (simp only [List.length_map, List.length_nil]; omega) | exact qaf _ Cell.flat _ | grind [inInt]), (by first | omega | (simp only [List.length_map, List.length_nil]; omega) | exact qaf _ Cell.flat _ | grind [inInt]), (by first | omega | (simp only [List.length_map, List.length_nil]; omega) | exact qaf _ Cell.flat _ | grind [inInt]), h1, h5, h5, c6, h7, h8, trivial⟩
        · skip
          
          have c9 := qeN (xs.filter fun a => !qas x a) x (by omega)
          rw [show qak kind xs x = ((qa3 (xs.filter fun a => !qas x a) x), true) from by grind [qak, qaF]]
          exact qvN _ _ _ _ _ _ _ _ _ _ ⟨(by first | omega | (simp only [List.length_map, List.length_nil]; omega) | exact qaf _ Cell.flat _ | grind [inInt]), (by first | omega | (simp only [List.length_map, List.length_nil]; omega) | exact qaf _ Cell.flat _ | grind [inInt]), (by first | omega | (simp only [List.length_map, List.length_nil]; omega) | exact qaf _ Cell.flat _ | grind [inInt]), h1, h5, h5, c6, h7, h8, (qgQ xs x hl), c9, trivial⟩
      · skip
        
        have c10 := qeN (xs.filter fun a => !qas x a) x (by omega)
        rw [show qak kind xs x = ((qa3 (xs.filter fun a => !qas x a) x), true) from by grind [qak, qaF]]
        exact qvO _ _ _ _ _ _ _ _ _ _ ⟨(by first | omega | (simp only [List.length_map, List.length_nil]; omega) | exact qaf _ Cell.flat _ | grind [inInt]), (by first | omega | (simp only [List.length_map, List.length_nil]; omega) | exact qaf _ Cell.flat _ | grind [inInt]), (by first | omega | (simp only [List.length_map, List.length_nil]; omega) | exact qaf _ Cell.flat _ | grind [inInt]), h1, h5, h5, c6, h7, (qgQ xs x hl), c10, trivial⟩
    · skip
      rcases Bool.eq_false_or_eq_true (kind == 8) with h11 | h11
      · skip
        have c12 := qml xs x.op x.epoch x.key (by omega)
        rcases Bool.eq_false_or_eq_true ((qbu xs x.op x.epoch x.key).2) with h13 | h13
        · skip
          rcases Bool.eq_false_or_eq_true (decide (((qbu xs x.op x.epoch x.key).1) ≤ x.val)) with h14 | h14
          · skip
            rw [show qak kind xs x = (xs, false) from by grind [qak, qaF]]
            exact qvP _ _ _ _ _ _ _ _ ⟨(by first | omega | (simp only [List.length_map, List.length_nil]; omega) | exact qaf _ Cell.flat _ | grind [inInt]), (by first | omega | (simp only [List.length_map, List.length_nil]; omega) | exact qaf _ Cell.flat _ | grind [inInt]), (by first | omega | (simp only [List.length_map, List.length_nil]; omega) | exact qaf _ Cell.flat _ | grind [inInt]), h1, h5, h11, c12, h13, h14, trivial⟩
          · skip
            
            have c15 := qeN (xs.filter fun a => !qas x a) x (by omega)
            rw [show qak kind xs x = ((qa3 (xs.filter fun a => !qas x a) x), true) from by grind [qak, qaF]]
            exact qvQ _ _ _ _ _ _ _ _ _ _ ⟨(by first | omega | (simp only [List.length_map, List.length_nil]; omega) | exact qaf _ Cell.flat _ | grind [inInt]), (by first | omega | (simp only [List.length_map, List.length_nil]; omega) | exact qaf _ Cell.flat _ | grind [inInt]), (by first | omega | (simp only [List.length_map, List.length_nil]; omega) | exact qaf _ Cell.flat _ | grind [inInt]), h1, h5, h11, c12, h13, h14, (qgQ xs x hl), c15, trivial⟩
        · skip
          
          have c16 := qeN (xs.filter fun a => !qas x a) x (by omega)
          rw [show qak kind xs x = ((qa3 (xs.filter fun a => !qas x a) x), true) from by grind [qak, qaF]]
          exact qvR _ _ _ _ _ _ _ _ _ _ ⟨(by first | omega | (simp only [List.length_map, List.length_nil]; omega) | exact qaf _ Cell.flat _ | grind [inInt]), (by first | omega | (simp only [List.length_map, List.length_nil]; omega) | exact qaf _ Cell.flat _ | grind [inInt]), (by first | omega | (simp only [List.length_map, List.length_nil]; omega) | exact qaf _ Cell.flat _ | grind [inInt]), h1, h5, h11, c12, h13, (qgQ xs x hl), c16, trivial⟩
      · skip
        rw [show qak kind xs x = (xs, true) from by grind [qak, qaF]]
        exact qvS _ _ _ _ _ _ ⟨(by first | omega | (simp only [List.length_map, List.length_nil]; omega) | exact qaf _ Cell.flat _ | grind [inInt]), (by first | omega | (simp only [List.length_map, List.length_nil]; omega) | exact qaf _ Cell.flat _ | grind [inInt]), (by first | omega | (simp only [List.length_map, List.length_nil]; omega) | exact qaf _ Cell.flat _ | grind [inInt]), h1, h5, h11, trivial⟩
def cellOf (r : Record) : Cell := ⟨r.op, r.stamp.epoch, r.key, r.val⟩
end Go.Proofs.YtialmplmfcahpaaGreat
