/- Orders of stamps and records, SortRecords, PendingAll, PendingOf: what program and reference compute. -/
import Derived.Test.YtialmplmfcahpaaGreatC2
import Derived.Test.YtialmplmfcahpaaGreatC6
import Derived.Test.YtialmplmfcahpaaGreatQ3
set_option linter.unusedVariables false
set_option linter.unusedSimpArgs false
namespace Go.Proofs.YtialmplmfcahpaaGreat
open Go.Sx Go.RowKit Go.Sort
def ql0 (s : Stamp) : List Int := [s.epoch, s.turn]
def qfo (r : Record) : List Int := [r.stamp.epoch, r.stamp.turn, r.op, r.key, r.val]
def qfp (a b : Stamp) : Int := cmpL (ql0 a) (ql0 b)
def qaO (a b : Record) : Int := cmpL (qfo a) (qfo b)
theorem recO : SWO (ltOf qaO) := qvV qfo 5 fun _ => rfl
theorem recT (x y : Record) : ltOf qaO x y = false → ltOf qaO y x = false → x = y :=
  qvW qfo 5 (fun _ => rfl) (fun a b h => by
    obtain ⟨_, ⟨_, _⟩, _, _⟩ := a
    obtain ⟨_, ⟨_, _⟩, _, _⟩ := b
    simp [qfo] at h; simp [h]) x y
theorem qv7 (d : Int) : lexN [d] = d := by
  rw [qdc]
  split
  · rename_i h; rw [h]; rfl
  · rfl
theorem ql1 (a b : Stamp) : qfp a b = lexN [ord3 a.epoch b.epoch, ord3 a.turn b.turn] := rfl
theorem ql2 (a b : Record) : qaO a b = lexN [qfp a.stamp b.stamp, ord3 a.op b.op, ord3 a.key b.key, ord3 a.val b.val] := by
  rw [ql1, qlN]; rfl
theorem qv8 {P : Program} {g : Nat} (h : qbk P g = true) : ∀ args w, (callFunc g args).run P w = .ok (.enter g args) w := by
  intro args w
  unfold qbk at h
  split at h
  · rename_i fn hfn
    simp only [Bool.and_eq_true, Bool.not_eq_true', beq_eq_false_iff_ne, ne_eq] at h
    have hc2' : fn.body ≠ none := by intro e; rw [e] at h; simp at h
    simp [callFunc, hfn, h.1, hc2']
  · cases h
theorem qv9 (a b : Stamp) : Ret Tryz.prog 304 [.agg a.e, .agg b.e] [.one (I (qfp a b))] := by
  have o1 := qcV a.epoch b.epoch
  have o2 := qcV a.turn b.turn
  rw [ql1, qdc, qv7]
  split
  · rename_i h
    rw [h] at o1
    exact qtB _ _ _ _ _ _ ⟨o1, rfl, o2, trivial⟩
  · rename_i h
    exact qtA _ _ _ _ _ ⟨o1, by simpa using h, trivial⟩
theorem qwa (a b : Stamp) : Ret Tryz.prog 308 [.agg a.e, .agg b.e] [.one (I (qfp a b))] :=
  qtC _ _ _ _ _ ⟨qjg [a.epoch, a.turn] [b.epoch, b.turn] rfl (by simp), trivial⟩
theorem ql3 (a b : Record) : Ret Tryz.prog 261 [.agg a.e, .agg b.e] [.one (I (qaO a b))] := by
  have o1 := qv9 a.stamp b.stamp
  have o2 := qcV a.op b.op
  have o3 := qcV a.key b.key
  have o4 := qcV a.val b.val
  rw [ql2]
  generalize qfp a.stamp b.stamp = x1 at *
  generalize ord3 a.op b.op = x2 at *
  generalize ord3 a.key b.key = x3 at *
  generalize ord3 a.val b.val = x4 at *
  have l := qbB (P := Tryz.prog) (c := (qaa Tryz.f261 0)) [x1, x2, x3, x4] (fun d => d != 0) (fun i => qdM x1 x2 x3 x4 i) (X := fun _ d => qgo d) qaD (qah 0)
    (fun i d hd h => qtE _ _ _ _ _ _ ⟨dT (by have := lt_of hd; simp at this; omega), lt0, by have := lt_of hd; simp at this ⊢; omega, qae eI hd, h, ⟨by omega, by have := lt_of hd; simp at this; omega⟩, trivial⟩)
    (fun i d hd h => qtD _ _ _ _ _ _ _ ⟨dT (by have := lt_of hd; simp at this; omega), lt0, by have := lt_of hd; simp at this ⊢; omega, qae eI hd, h, lt0, by have := lt_of hd; simp at this ⊢; omega, qae eI hd, trivial⟩)
    (qtF _ _ _ _ _ ⟨rfl, trivial⟩)
  unfold lexN
  rcases l with ⟨h1, _, _, h2⟩ | ⟨i, a, _, _, h1, _, _, h2⟩
  · rw [h1]; exact qtH _ _ _ _ _ _ _ _ _ _ _ _ _ _ ⟨o1, o2, o3, o4, h2, trivial⟩
  · rw [h1]; exact qtG _ _ _ _ _ _ _ _ _ _ _ _ _ _ _ ⟨o1, o2, o3, o4, h2, trivial⟩
theorem qwb (a b : Record) : Ret Tryz.prog 263 [.agg a.e, .agg b.e] [.one (I (qaO a b))] := by
  have o1 := qwa a.stamp b.stamp
  have o2 := qjg [a.op, a.key, a.val] [b.op, b.key, b.val] rfl (by simp)
  rw [ql2, qdc]
  split
  · rename_i h
    rw [h] at o1
    exact qtJ _ _ _ _ _ _ _ _ _ _ _ _ ⟨o1, rfl, o2, trivial⟩
  · rename_i h
    exact qtI _ _ _ _ _ _ _ _ _ _ _ ⟨o1, by simpa using h, trivial⟩
theorem ql4 (x : Record) (S R : List Record) (n : Int) (hl : S.length + R.length + 1 ≤ 1048576) : ∀ (k : Nat) (y : Record), k ≤ S.length → ∃ y', qac Tryz.prog (qaa Tryz.f168 1)
    (qda n k ((S.take k ++ y :: (S.drop k ++ R)).map Record.e) x.op x.stamp.epoch x.stamp.turn x.key x.val) (.exit 2)
    (qfj n ((S.take (plc (ltOf qaO) x S k) ++ y' :: (S.drop (plc (ltOf qaO) x S k) ++ R)).map Record.e) (plc (ltOf qaO) x S k : Nat) x.op x.stamp.epoch x.stamp.turn x.key x.val)
  | 0, y, _ => ⟨y, .last (qah 2) (qtM _ _ _ _ _ _ _ _ ⟨dF (by simp), trivial⟩)⟩
  | k + 1, y, hk => by
    obtain ⟨z, hz⟩ := qag (xs := S) (i := k) (by omega)
    have e1 : (((k + 1 : Nat) : Int) - 1).toNat = k := by omega
    have hget : ((S.take (k + 1) ++ y :: (S.drop (k + 1) ++ R)).map Record.e)[(((k + 1 : Nat) : Int) - 1).toNat]? = some z.e := by
      rw [e1, List.getElem?_map, List.getElem?_append_left (by simp; omega), List.getElem?_take, if_pos (by omega), hz]; rfl
    have hget2 : ((S.take (k + 1) ++ y :: (S.drop (k + 1) ++ R)).map Record.e)[(((k + 1 : Nat) : Int)).toNat]? = some y.e := by
      rw [Int.toNat_natCast, List.getElem?_map, List.getElem?_append_right (by simp; omega)]
      simp [List.length_take, Nat.min_eq_left hk]
    have hlen : (↑((S.take (k + 1) ++ y :: (S.drop (k + 1) ++ R)).map Record.e).length : Int) = S.length + R.length + 1 := by simp; omega
    have h64 : inInt .i64 (((k + 1 : Nat) : Int) - 1) := ⟨by omega, by omega⟩
    have hgt : decide (((k + 1 : Nat) : Int) > 0) = true := dT (by omega)
    simp only [plc, hz]
    by_cases hc : ltOf qaO x z = true
    · rw [if_pos hc]
      obtain ⟨y', hy⟩ := ql4 x S R n hl k z (by omega)
      refine ⟨y', .more ?_ hy⟩
      have hc' : decide (qaO x z < 0) = true := hc
      refine tr_to (fun l => qda n k l x.op x.stamp.epoch x.stamp.turn x.key x.val) (tr_to (fun i => qda n i _ x.op x.stamp.epoch x.stamp.turn x.key x.val) (qtK _ _ _ _ _ _ _ _ _ _ _ _ _ _ _ _ _ _ _ _ _ _ _ _ ⟨hgt, h64, by omega, by omega, hget, ql3 x z, hc', h64, by omega, by omega, hget, by omega, by omega, hget2, h64, trivial⟩) (by omega : ((k + 1 : Nat) : Int) - 1 = k)) ?_
      show List.set _ _ z.e = _
      rw [Int.toNat_natCast, ← List.map_set]
      congr 1
      rw [List.set_append_right _ _ (by simp; omega)]
      have hzk : S[k]'(lt_of hz) = z := by have := hz; rw [List.getElem?_eq_getElem (lt_of hz)] at this; exact Option.some.inj this
      simp only [List.length_take, Nat.min_eq_left hk, Nat.sub_self, List.set_cons_zero]
      rw [List.take_succ_eq_append_getElem (lt_of hz), hzk, ← List.getElem_cons_drop (lt_of hz), hzk]
      simp
    · rw [if_neg hc]
      have hc' : decide (qaO x z < 0) = false := by simpa [ltOf] using hc
      exact ⟨y, .last (qah 2) (qtL _ _ _ _ _ _ _ _ _ _ _ _ _ _ ⟨hgt, h64, by omega, by omega, hget, ql3 x z, hc', trivial⟩)⟩
theorem qjk (xs : List Record) (hl : xs.length ≤ 1048576) : Ret Tryz.prog 168 [.one (.sl 5 (xs.map Record.e))] [.one (.sl 5 ((sortI (ltOf qaO) xs).map Record.e))] := by
  have hlen : ∀ ys : List Record, (sortI (ltOf qaO) ys).length = ys.length := fun ys => by simp [sortI, qjj]
  let f := fun i : Nat => qbR i ((sortI (ltOf qaO) (xs.take i) ++ xs.drop i).map Record.e)
  have step : ∀ i, 1 ≤ i → i < xs.length → Tr Tryz.prog (qaa Tryz.f168 0) (f i) .normal (f (i + 1)) := by
    intro i _ hi
    obtain ⟨x, hx⟩ := qag hi
    have hxi : xs[i] = x := by rw [List.getElem?_eq_getElem hi] at hx; exact Option.some.inj hx
    have hS : (sortI (ltOf qaO) (xs.take i)).length = i := by rw [hlen, List.length_take]; omega
    have e0 : ∀ S : List Record, S.length = i → S ++ xs.drop i = S.take i ++ x :: (S.drop i ++ xs.drop (i + 1)) := by
      intro S h
      rw [List.take_of_length_le (l := S) (by omega), List.drop_eq_nil_of_le (show S.length ≤ i by omega), List.nil_append, ← List.getElem_cons_drop hi, hxi]
    show Tr _ _ (qbR i _) _ (qbR (i + 1 : Nat) _)
    rw [qv0 _ hx, insR, hS, e0 _ hS]
    generalize sortI (ltOf qaO) (xs.take i) = S at *
    have hlt : S.length + (xs.drop (i + 1)).length + 1 = xs.length := by simp; omega
    obtain ⟨y', hy⟩ := ql4 x S (xs.drop (i + 1)) i (by omega) i x (by omega)
    have hp := qjh (ltOf qaO) x S i
    generalize plc (ltOf qaO) x S i = p at *
    have hget : ((S.take i ++ x :: (S.drop i ++ xs.drop (i + 1))).map Record.e)[((i : Nat) : Int).toNat]? = some x.e := by
      rw [Int.toNat_natCast, List.getElem?_map, List.getElem?_append_right (by simp; omega)]
      simp [List.length_take, Nat.min_eq_left (show i ≤ S.length by omega)]
    have hget2 : ((S.take p ++ y' :: (S.drop p ++ xs.drop (i + 1))).map Record.e)[((p : Nat) : Int).toNat]? = some y'.e := by
      rw [Int.toNat_natCast, List.getElem?_map, List.getElem?_append_right (by simp; omega)]
      simp [List.length_take, Nat.min_eq_left (show p ≤ S.length by omega)]
    have hl1 : (↑((S.take i ++ x :: (S.drop i ++ xs.drop (i + 1))).map Record.e).length : Int) = xs.length := by simp; omega
    have hl2 : (↑((S.take p ++ y' :: (S.drop p ++ xs.drop (i + 1))).map Record.e).length : Int) = xs.length := by simp; omega
    refine tr_to (qbR ((i + 1 : Nat) : Int)) (qtN _ _ _ _ _ _ _ _ _ _ _ _ _ _ _ _ _ _ _ ⟨dT (by omega), by omega, by omega, hget, hy, by omega, by omega, hget2, ⟨by omega, by omega⟩, trivial⟩) ?_
    show List.set _ _ x.e = _
    rw [Int.toNat_natCast, ← List.map_set]
    congr 1
    rw [List.set_append_right _ _ (by simp; omega)]
    simp [List.length_take, Nat.min_eq_left (show p ≤ S.length by omega)]
  have l : qac Tryz.prog (qaa Tryz.f168 0) (qbR 1 (xs.map Record.e)) (.exit 0) (qfk ((sortI (ltOf qaO) xs).map Record.e)) := by
    rcases Nat.eq_zero_or_pos xs.length with h0 | h0
    · have hx : xs = [] := List.eq_nil_of_length_eq_zero h0
      rw [hx]
      exact .last (qah 0) (qlE _ _ ⟨rfl, trivial⟩)
    · have e := qok (P := Tryz.prog) (c := (qaa Tryz.f168 0)) (qah 0) 1 xs.length f h0 step (stE := qfk ((sortI (ltOf qaO) xs).map Record.e)) (by
        show Tr _ _ (qbR _ _) _ _
        rw [List.take_length, List.drop_length, List.append_nil]
        exact qlE _ _ ⟨dF (by rw [List.length_map, hlen]; omega), trivial⟩)
      have e1 : sortI (ltOf qaO) (xs.take 1) ++ xs.drop 1 = xs := by
        obtain ⟨a, ys, rfl⟩ := List.exists_cons_of_length_pos h0
        rfl
      have e2 : f 1 = qbR 1 (xs.map Record.e) := by
        show qbR _ _ = _
        rw [e1]; rfl
      rw [e2] at e
      exact e
  exact qtO _ _ ⟨by simp; omega, by simp; omega, qaf _ Record.flat _, l, trivial⟩
theorem ql5 (xs : List Record) (hl : xs.length ≤ 1048576) : Ret Tryz.prog 170 [.one (.sl 5 (xs.map Record.e))] [.one (.sl 5 (xs.map Record.e))] :=
  qs6 _ ⟨by simp; omega, by simp; omega, qaf _ Record.flat _, trivial⟩
theorem qjl (xs : List Record) (hl : xs.length ≤ 1048576) : Ret Tryz.prog 169 [.one (.sl 5 (xs.map Record.e))] [.one (.sl 5 ((sortI (ltOf qaO) xs).map Record.e))] := by
  have s := qv6 xs qaO recO recT 263 (qv8 (by kernel_rfl)) qwb hl
  rw [qvZ recO recT]
  exact qtP _ _ _ ⟨ql5 xs hl, s, trivial⟩
theorem qfq (xs : List Record) : (sortI (ltOf qaO) xs).length = xs.length := by simp [sortI, qjj]
def heldW (w : Worker) : List Record := w.queue ++ w.staged
def qbZ (c : Cluster) : List Record := c.workers.flatMap heldW ++ c.links.flatMap Link.queue
def qaN (c : Cluster) : List Record := sortI (ltOf qaO) (qbZ c)
def pendOf (c : Cluster) (e : Int) : List Record := qfn e (qaN c)
theorem qfr {α β : Type} (f : α → List β) (sz : α → Nat) (h : ∀ a, (f a).length ≤ sz a) : ∀ xs : List α, (xs.flatMap f).length ≤ (xs.map sz).sum
  | [] => by simp
  | a :: xs => by
    have := qfr f sz h xs
    have := h a
    simp only [List.flatMap_cons, List.length_append, List.map_cons, List.sum_cons]
    omega
theorem qgA {α β : Type} (f : α → List β) (xs : List α) (i : Nat) : ((xs.take i).flatMap f).length ≤ (xs.flatMap f).length := by
  have : xs.flatMap f = (xs.take i).flatMap f ++ (xs.drop i).flatMap f := by rw [← List.flatMap_append, List.take_append_drop]
  rw [this, List.length_append]
  omega
theorem qgB {α β : Type} (f : α → List β) {xs : List α} {i : Nat} {a : α} (h : xs[i]? = some a) : (xs.take (i + 1)).flatMap f = (xs.take i).flatMap f ++ f a := by
  simp [List.take_add_one, h]
theorem Cluster.raw_le {c : Cluster} (h : c.sz ≤ 1048576) : (c.workers.flatMap heldW).length + (c.workers.flatMap Worker.inputs).length + (c.links.flatMap Link.queue).length ≤ 1048576 := by
  have h1 := qfr (fun w => heldW w ++ w.inputs) Worker.sz (fun w => by simp only [Worker.sz, heldW, List.length_append]; omega) c.workers
  have h2 := qfr Link.queue Link.sz (fun l => by simp only [Link.sz]; omega) c.links
  have h3 : (c.workers.flatMap fun w => heldW w ++ w.inputs).length = (c.workers.flatMap heldW).length + (c.workers.flatMap Worker.inputs).length := by
    generalize c.workers = ws
    induction ws with
    | nil => rfl
    | cons w ws ih => simp only [List.flatMap_cons, List.length_append, ih]; omega
  simp only [Cluster.sz, szS] at h
  omega
theorem qjm {c : Cluster} (h : c.sz ≤ 1048576) : (qbZ c).length + (c.workers.flatMap Worker.inputs).length ≤ 1048576 := by
  have := Cluster.raw_le h
  simp only [qbZ, List.length_append]
  omega
theorem ql6 (c : Cluster) : (qaN c).length = (qbZ c).length := qfq _
theorem ql7 {c : Cluster} (h : c.sz ≤ 1048576) : (qaN c).length ≤ 1048576 := by
  have := qjm h
  rw [ql6]; omega
theorem Cluster.wlen_le {c : Cluster} (h : c.sz ≤ 1048576) : c.workers.length ≤ 1048576 := by simp only [Cluster.sz, szS] at h; omega
theorem Cluster.llen_le {c : Cluster} (h : c.sz ≤ 1048576) : c.links.length ≤ 1048576 := by simp only [Cluster.sz, szS] at h; omega
theorem ql8 (c : Cluster) (hc : c.sz ≤ 1048576) : Ret Tryz.prog 79 [.agg c.e] [.one (.sl 5 ((qaN c).map Record.e))] := by
  have hraw := Cluster.raw_le hc
  have l0 := qaj (P := Tryz.prog) (c := (qaa Tryz.f79 0)) (qah 0) c.workers.length (fun i : Nat => qeF (c.graph.nodes.map Node.e) c.graph.workers c.graph.cap (c.workers.map Worker.e) (c.links.map Link.e) (c.tokens.map Token.e) (c.news.map News.e) i (((c.workers.take i).flatMap heldW).map Record.e)) (fun i hi => by
    obtain ⟨w, hw⟩ := qag hi
    have h1 := qgB heldW hw
    have h2 := qgA heldW c.workers (i + 1)
    have h4 : ((c.workers.take i).flatMap heldW).length + w.queue.length + w.staged.length ≤ 1048576 := by
      rw [h1, List.length_append, heldW, List.length_append] at h2; omega
    refine tr_to (qeF _ _ _ _ _ _ _ _) (qtQ _ _ _ _ _ _ _ _ _ _ _ _ _ _ _ _ _ _ _ _ _ _ _ _ _ ⟨lt1 hi, lt0, lt2 hi, qae Worker.e hw, by simp only [List.length_map]; omega, by simp only [List.length_map]; omega, qaf _ Record.flat _, lt0, lt2 hi, qae Worker.e hw, by simp only [List.length_map, List.length_append]; omega, by simp only [List.length_map, List.length_append]; omega, qaf _ Record.flat _, up1 hi (Cluster.wlen_le hc), trivial⟩) ?_
    rw [h1, heldW]
    simp only [List.map_append, List.append_assoc]) (qtR _ _ _ _ _ _ _ _ _ ⟨ge1, trivial⟩)
  have l1 := qaj (P := Tryz.prog) (c := (qaa Tryz.f79 1)) (qah 2) c.links.length (fun i : Nat => qeG (c.graph.nodes.map Node.e) c.graph.workers c.graph.cap (c.workers.map Worker.e) (c.links.map Link.e) (c.tokens.map Token.e) (c.news.map News.e) i ((c.workers.flatMap heldW ++ (c.links.take i).flatMap Link.queue).map Record.e)) (fun i hi => by
    obtain ⟨l, hlk⟩ := qag hi
    have h1 := qgB Link.queue hlk
    have h2 := qgA Link.queue c.links (i + 1)
    have h4 : (c.workers.flatMap heldW).length + ((c.links.take i).flatMap Link.queue).length + l.queue.length ≤ 1048576 := by
      rw [h1, List.length_append] at h2; omega
    refine tr_to (qeG _ _ _ _ _ _ _ _) (qtS _ _ _ _ _ _ _ _ _ _ _ _ _ _ _ ⟨lt1 hi, lt0, lt2 hi, qae Link.e hlk, by simp only [List.length_map, List.length_append]; omega, by simp only [List.length_map, List.length_append]; omega, qaf _ Record.flat _, up1 hi (Cluster.llen_le hc), trivial⟩) ?_
    rw [h1]
    simp only [List.map_append, List.append_assoc]) (qtT _ _ _ _ _ _ _ _ _ ⟨ge1, trivial⟩)
  rw [List.take_length] at l0 l1
  simp only [List.take_zero, List.flatMap_nil, List.append_nil] at l0 l1
  exact qtU _ _ _ _ _ _ _ _ _ _ ⟨l0, l1, qjk (qbZ c) (by have := qjm hc; omega), trivial⟩
theorem ql9 (c : Cluster) (hc : c.sz ≤ 1048576) : Ret Tryz.prog 84 [.agg c.e] [.one (.sl 5 ((qaN c).map Record.e))] := by
  have hraw := Cluster.raw_le hc
  have l0 := qaj (P := Tryz.prog) (c := (qaa Tryz.f84 0)) (qah 0) c.workers.length (fun i : Nat => qeH (c.workers.map Worker.e) i (((c.workers.take i).flatMap heldW).map Record.e) (c.graph.nodes.map Node.e) c.graph.workers c.graph.cap (c.workers.map Worker.e) (c.links.map Link.e) (c.tokens.map Token.e) (c.news.map News.e)) (fun i hi => by
    obtain ⟨w, hw⟩ := qag hi
    have h1 := qgB heldW hw
    have h2 := qgA heldW c.workers (i + 1)
    have h4 : ((c.workers.take i).flatMap heldW).length + w.queue.length + w.staged.length ≤ 1048576 := by
      rw [h1, List.length_append, heldW, List.length_append] at h2; omega
    refine tr_to (fun l => qeH _ _ l _ _ _ _ _ _ _) (qtV _ _ _ _ _ _ _ _ _ _ _ _ _ _ _ _ _ _ ⟨lt1 hi, lt0, lt2 hi, qae Worker.e hw, by simp only [List.length_map]; omega, by simp only [List.length_map]; omega, qaf _ Record.flat _, by simp only [List.length_map, List.length_append]; omega, by simp only [List.length_map, List.length_append]; omega, qaf _ Record.flat _, up1 hi (Cluster.wlen_le hc), trivial⟩) ?_
    rw [h1, heldW]
    simp only [List.map_append, List.append_assoc]) (qtW _ _ _ _ _ _ _ _ _ _ ⟨ge1, trivial⟩)
  have l1 := qaj (P := Tryz.prog) (c := (qaa Tryz.f84 1)) (qah 2) c.links.length (fun i : Nat => qeI (c.links.map Link.e) i ((c.workers.flatMap heldW ++ (c.links.take i).flatMap Link.queue).map Record.e)) (fun i hi => by
    obtain ⟨l, hlk⟩ := qag hi
    have h1 := qgB Link.queue hlk
    have h2 := qgA Link.queue c.links (i + 1)
    have h4 : (c.workers.flatMap heldW).length + ((c.links.take i).flatMap Link.queue).length + l.queue.length ≤ 1048576 := by
      rw [h1, List.length_append] at h2; omega
    refine tr_to (qeI _ _) (qtX _ _ _ _ _ _ _ _ _ ⟨lt1 hi, lt0, lt2 hi, qae Link.e hlk, by simp only [List.length_map, List.length_append]; omega, by simp only [List.length_map, List.length_append]; omega, qaf _ Record.flat _, up1 hi (Cluster.llen_le hc), trivial⟩) ?_
    rw [h1]
    simp only [List.map_append, List.append_assoc]) (qtY _ _ _ ⟨ge1, trivial⟩)
  rw [List.take_length] at l0 l1
  simp only [List.take_zero, List.flatMap_nil, List.append_nil] at l0 l1
  exact qtZ _ _ _ _ _ _ _ _ _ _ _ _ _ _ _ _ _ ⟨l0, l1, qjl (qbZ c) (by have := qjm hc; omega), trivial⟩
theorem spec_PendingOf_ret (c : Cluster) (e : Int) (hc : c.sz ≤ 1048576) : Ret Tryz.prog 178 [.agg c.e, .one (I e)] [.one (.sl 5 ((pendOf c e).map Record.e))] :=
  spec_PendingOf_p0 _ _ _ _ _ _ _ _ _ _ ⟨ql8 c hc, spec_OfEpoch_ret (qaN c) e (ql7 hc), trivial⟩
theorem impl_PendingOf_ret (c : Cluster) (e : Int) (hc : c.sz ≤ 1048576) : Ret Tryz.prog 190 [.agg c.e, .one (I e)] [.one (.sl 5 ((pendOf c e).map Record.e))] :=
  impl_PendingOf_p0 _ _ _ _ _ _ _ _ _ _ ⟨ql9 c hc, qv1 (qaN c) e (ql7 hc), trivial⟩
end Go.Proofs.YtialmplmfcahpaaGreat
