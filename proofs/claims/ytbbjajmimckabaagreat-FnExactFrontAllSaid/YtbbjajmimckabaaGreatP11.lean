/- Orders of stamps and records, SortRecords, PendingAll, PendingOf: what program and reference compute. -/
import Derived.Test.YtbbjajmimckabaaGreatC2
import Derived.Test.YtbbjajmimckabaaGreatQ3
set_option linter.unusedVariables false
set_option linter.unusedSimpArgs false
namespace Go.Proofs.YtbbjajmimckabaaGreat
open Go.Sx Go.RowKit Go.Sort

def stampKey (s : Stamp) : List Int := [s.epoch, s.turn]
def recKey (r : Record) : List Int := [r.stamp.epoch, r.stamp.turn, r.op, r.key, r.val]
def stampOrd (a b : Stamp) : Int := cmpL (stampKey a) (stampKey b)
def recOrd (a b : Record) : Int := cmpL (recKey a) (recKey b)

theorem stampO : SWO (ltOf stampOrd) := swo_of stampKey 2 fun _ => rfl
theorem recO : SWO (ltOf recOrd) := swo_of recKey 5 fun _ => rfl
theorem stampT (x y : Stamp) : ltOf stampOrd x y = false → ltOf stampOrd y x = false → x = y :=
  total_of stampKey 2 (fun _ => rfl) (fun a b h => by cases a; cases b; simp [stampKey] at h; simp [h]) x y
theorem recT (x y : Record) : ltOf recOrd x y = false → ltOf recOrd y x = false → x = y :=
  total_of recKey 5 (fun _ => rfl) (fun a b h => by
    obtain ⟨_, ⟨_, _⟩, _, _⟩ := a
    obtain ⟨_, ⟨_, _⟩, _, _⟩ := b
    simp [recKey] at h; simp [h]) x y

theorem lexN_one (d : Int) : lexN [d] = d := by
  rw [lexN_cons]
  split
  · rename_i h; rw [h]; rfl
  · rfl

theorem stampOrd_eq (a b : Stamp) : stampOrd a b = lexN [ord3 a.epoch b.epoch, ord3 a.turn b.turn] := rfl
theorem recOrd_eq (a b : Record) : recOrd a b = lexN [stampOrd a.stamp b.stamp, ord3 a.op b.op, ord3 a.key b.key, ord3 a.val b.val] := by
  rw [stampOrd_eq, lexN_app]; rfl

theorem call_enter {P : Program} {g : Nat} (h : canCall P g = true) : ∀ args w, (callFunc g args).run P w = .ok (.enter g args) w := by
  intro args w
  unfold canCall at h
  split at h
  · rename_i fn hfn
    simp only [Bool.and_eq_true, Bool.not_eq_true', beq_eq_false_iff_ne, ne_eq] at h
    have hc2' : fn.body ≠ none := by intro e; rw [e] at h; simp at h
    simp [callFunc, hfn, h.1, hc2']
  · cases h

theorem spec_StampOrder_ret (a b : Stamp) : Ret Tryz.prog 84 [.agg a.e, .agg b.e] [.one (I (stampOrd a b))] := by
  have o1 := spec_l02Order_ret a.epoch b.epoch
  have o2 := spec_l02Order_ret a.turn b.turn
  rw [stampOrd_eq, lexN_cons, lexN_one]
  split
  · rename_i h
    rw [h] at o1
    exact spec_StampOrder_p1 _ _ _ _ _ _ ⟨o1, rfl, o2, trivial⟩
  · rename_i h
    exact spec_StampOrder_p0 _ _ _ _ _ ⟨o1, by simpa using h, trivial⟩

theorem impl_StampOrder_ret (a b : Stamp) : Ret Tryz.prog 90 [.agg a.e, .agg b.e] [.one (I (stampOrd a b))] :=
  impl_StampOrder_p0 _ _ _ _ _ ⟨impl_orderOf_ret [a.epoch, a.turn] [b.epoch, b.turn] rfl (by simp), trivial⟩

theorem spec_RecordOrder_ret (a b : Record) : Ret Tryz.prog 64 [.agg a.e, .agg b.e] [.one (I (recOrd a b))] := by
  have o1 := spec_StampOrder_ret a.stamp b.stamp
  have o2 := spec_l02Order_ret a.op b.op
  have o3 := spec_l02Order_ret a.key b.key
  have o4 := spec_l02Order_ret a.val b.val
  rw [recOrd_eq]
  generalize stampOrd a.stamp b.stamp = x1 at *
  generalize ord3 a.op b.op = x2 at *
  generalize ord3 a.key b.key = x3 at *
  generalize ord3 a.val b.val = x4 at *
  have l := loop_scan (P := Tryz.prog) (c := (loopOf Tryz.f64 0)) [x1, x2, x3, x4] (fun d => d != 0) (fun i => spec_RecordOrder_L0 x1 x2 x3 x4 i) (X := fun _ d => spec_RecordOrder_X0 d) ret_ne (exit_ne 0)
    (fun i d hd h => spec_RecordOrder_L0_s1 _ _ _ _ _ _ ⟨dT (by have := lt_of hd; simp at this; omega), lt0, by have := lt_of hd; simp at this ⊢; omega, at_map eI hd, h, ⟨by omega, by have := lt_of hd; simp at this; omega⟩, trivial⟩)
    (fun i d hd h => spec_RecordOrder_L0_x0 _ _ _ _ _ _ _ ⟨dT (by have := lt_of hd; simp at this; omega), lt0, by have := lt_of hd; simp at this ⊢; omega, at_map eI hd, h, lt0, by have := lt_of hd; simp at this ⊢; omega, at_map eI hd, trivial⟩)
    (spec_RecordOrder_L0_x2 _ _ _ _ _ ⟨rfl, trivial⟩)
  unfold lexN
  rcases l with ⟨h1, _, _, h2⟩ | ⟨i, a, _, _, h1, _, _, h2⟩
  · rw [h1]; exact spec_RecordOrder_p1 _ _ _ _ _ _ _ _ _ _ _ _ _ _ ⟨o1, o2, o3, o4, h2, trivial⟩
  · rw [h1]; exact spec_RecordOrder_p0 _ _ _ _ _ _ _ _ _ _ _ _ _ _ _ ⟨o1, o2, o3, o4, h2, trivial⟩

theorem impl_RecordOrder_ret (a b : Record) : Ret Tryz.prog 72 [.agg a.e, .agg b.e] [.one (I (recOrd a b))] := by
  have o1 := impl_StampOrder_ret a.stamp b.stamp
  have o2 := impl_orderOf_ret [a.op, a.key, a.val] [b.op, b.key, b.val] rfl (by simp)
  rw [recOrd_eq, lexN_cons]
  split
  · rename_i h
    rw [h] at o1
    exact impl_RecordOrder_p1 _ _ _ _ _ _ _ _ _ _ _ _ ⟨o1, rfl, o2, trivial⟩
  · rename_i h
    exact impl_RecordOrder_p0 _ _ _ _ _ _ _ _ _ _ _ ⟨o1, by simpa using h, trivial⟩

/-! ### SortRecords -/
theorem spec_RecordOrder_ret' (a b : Record) (r : Int) (h : recOrd a b = r) : Ret Tryz.prog 64 [.agg a.e, .agg b.e] [.one (I r)] := h ▸ spec_RecordOrder_ret a b

theorem sort_inner (x : Record) (S R : List Record) (n : Int) (hl : S.length + R.length + 1 ≤ 1048576) : ∀ (k : Nat) (y : Record), k ≤ S.length → ∃ y', LoopOk Tryz.prog (loopOf Tryz.f30 1)
    (spec_SortRecords_L1 n k ((S.take k ++ y :: (S.drop k ++ R)).map Record.e) x.op x.stamp.epoch x.stamp.turn x.key x.val) (.exit 2)
    (spec_SortRecords_X1 n ((S.take (plc (ltOf recOrd) x S k) ++ y' :: (S.drop (plc (ltOf recOrd) x S k) ++ R)).map Record.e) (plc (ltOf recOrd) x S k : Nat) x.op x.stamp.epoch x.stamp.turn x.key x.val)
  | 0, y, _ => ⟨y, .last (exit_ne 2) (spec_SortRecords_L1_x2 _ _ _ _ _ _ _ _ ⟨dF (by simp), trivial⟩)⟩
  | k + 1, y, hk => by
    obtain ⟨z, hz⟩ := get_of (xs := S) (i := k) (by omega)
    have e1 : (((k + 1 : Nat) : Int) - 1).toNat = k := by omega
    have hget : ((S.take (k + 1) ++ y :: (S.drop (k + 1) ++ R)).map Record.e)[(((k + 1 : Nat) : Int) - 1).toNat]? = some z.e := by
      rw [e1, List.getElem?_map, List.getElem?_append_left (by simp; omega), List.getElem?_take, if_pos (by omega), hz]; rfl
    have hget2 : ((S.take (k + 1) ++ y :: (S.drop (k + 1) ++ R)).map Record.e)[(((k + 1 : Nat) : Int)).toNat]? = some y.e := by
      rw [Int.toNat_natCast, List.getElem?_map, List.getElem?_append_right (by simp; omega)]
      simp [List.length_take, Nat.min_eq_left hk]
    have hlen : (↑((S.take (k + 1) ++ y :: (S.drop (k + 1) ++ R)).map Record.e).length : Int) = S.length + R.length + 1 := by simp; omega
    have h64 : inInt .i64 (((k + 1 : Nat) : Int) - 1) := ⟨by omega, by omega⟩
    have hgt : decide (((k + 1 : Nat) : Int) > 0) = true := dT (by omega)
    simp only [plc, hz]
    by_cases hc : ltOf recOrd x z = true
    · rw [if_pos hc]
      obtain ⟨y', hy⟩ := sort_inner x S R n hl k z (by omega)
      refine ⟨y', .more ?_ hy⟩
      have hc' : decide (recOrd x z < 0) = true := hc
      refine tr_to (fun l => spec_SortRecords_L1 n k l x.op x.stamp.epoch x.stamp.turn x.key x.val) (tr_to (fun i => spec_SortRecords_L1 n i _ x.op x.stamp.epoch x.stamp.turn x.key x.val) (spec_SortRecords_L1_s0 _ _ _ _ _ _ _ _ _ _ _ _ _ _ _ _ _ _ _ _ _ _ _ _ ⟨hgt, h64, by omega, by omega, hget, spec_RecordOrder_ret x z, hc', h64, by omega, by omega, hget, by omega, by omega, hget2, h64, trivial⟩) (by omega : ((k + 1 : Nat) : Int) - 1 = k)) ?_
      show List.set _ _ z.e = _
      rw [Int.toNat_natCast, ← List.map_set]
      congr 1
      rw [List.set_append_right _ _ (by simp; omega)]
      have hzk : S[k]'(lt_of hz) = z := by have := hz; rw [List.getElem?_eq_getElem (lt_of hz)] at this; exact Option.some.inj this
      simp only [List.length_take, Nat.min_eq_left hk, Nat.sub_self, List.set_cons_zero]
      rw [List.take_succ_eq_append_getElem (lt_of hz), hzk, ← List.getElem_cons_drop (lt_of hz), hzk]
      simp
    · rw [if_neg hc]
      have hc' : decide (recOrd x z < 0) = false := by simpa [ltOf] using hc
      exact ⟨y, .last (exit_ne 2) (spec_SortRecords_L1_x1 _ _ _ _ _ _ _ _ _ _ _ _ _ _ ⟨hgt, h64, by omega, by omega, hget, spec_RecordOrder_ret x z, hc', trivial⟩)⟩

theorem spec_SortRecords_ret (xs : List Record) (hl : xs.length ≤ 1048576) : Ret Tryz.prog 30 [.one (.sl 5 (xs.map Record.e))] [.one (.sl 5 ((sortI (ltOf recOrd) xs).map Record.e))] := by
  have hlen : ∀ ys : List Record, (sortI (ltOf recOrd) ys).length = ys.length := fun ys => by simp [sortI, sortI_length]
  let f := fun i : Nat => spec_SortRecords_L0 i ((sortI (ltOf recOrd) (xs.take i) ++ xs.drop i).map Record.e)
  have step : ∀ i, 1 ≤ i → i < xs.length → Tr Tryz.prog (loopOf Tryz.f30 0) (f i) .normal (f (i + 1)) := by
    intro i _ hi
    obtain ⟨x, hx⟩ := get_of hi
    have hxi : xs[i] = x := by rw [List.getElem?_eq_getElem hi] at hx; exact Option.some.inj hx
    have hS : (sortI (ltOf recOrd) (xs.take i)).length = i := by rw [hlen, List.length_take]; omega
    have e0 : ∀ S : List Record, S.length = i → S ++ xs.drop i = S.take i ++ x :: (S.drop i ++ xs.drop (i + 1)) := by
      intro S h
      rw [List.take_of_length_le (l := S) (by omega), List.drop_eq_nil_of_le (show S.length ≤ i by omega), List.nil_append, ← List.getElem_cons_drop hi, hxi]
    show Tr _ _ (spec_SortRecords_L0 i _) _ (spec_SortRecords_L0 (i + 1 : Nat) _)
    rw [sortI_succ _ hx, insR, hS, e0 _ hS]
    generalize sortI (ltOf recOrd) (xs.take i) = S at *
    have hlt : S.length + (xs.drop (i + 1)).length + 1 = xs.length := by simp; omega
    obtain ⟨y', hy⟩ := sort_inner x S (xs.drop (i + 1)) i (by omega) i x (by omega)
    have hp := plc_le (ltOf recOrd) x S i
    generalize plc (ltOf recOrd) x S i = p at *
    have hget : ((S.take i ++ x :: (S.drop i ++ xs.drop (i + 1))).map Record.e)[((i : Nat) : Int).toNat]? = some x.e := by
      rw [Int.toNat_natCast, List.getElem?_map, List.getElem?_append_right (by simp; omega)]
      simp [List.length_take, Nat.min_eq_left (show i ≤ S.length by omega)]
    have hget2 : ((S.take p ++ y' :: (S.drop p ++ xs.drop (i + 1))).map Record.e)[((p : Nat) : Int).toNat]? = some y'.e := by
      rw [Int.toNat_natCast, List.getElem?_map, List.getElem?_append_right (by simp; omega)]
      simp [List.length_take, Nat.min_eq_left (show p ≤ S.length by omega)]
    have hl1 : (↑((S.take i ++ x :: (S.drop i ++ xs.drop (i + 1))).map Record.e).length : Int) = xs.length := by simp; omega
    have hl2 : (↑((S.take p ++ y' :: (S.drop p ++ xs.drop (i + 1))).map Record.e).length : Int) = xs.length := by simp; omega
    refine tr_to (spec_SortRecords_L0 ((i + 1 : Nat) : Int)) (spec_SortRecords_L0_s0 _ _ _ _ _ _ _ _ _ _ _ _ _ _ _ _ _ _ _ ⟨dT (by omega), by omega, by omega, hget, hy, by omega, by omega, hget2, ⟨by omega, by omega⟩, trivial⟩) ?_
    show List.set _ _ x.e = _
    rw [Int.toNat_natCast, ← List.map_set]
    congr 1
    rw [List.set_append_right _ _ (by simp; omega)]
    simp [List.length_take, Nat.min_eq_left (show p ≤ S.length by omega)]
  have l : LoopOk Tryz.prog (loopOf Tryz.f30 0) (spec_SortRecords_L0 1 (xs.map Record.e)) (.exit 0) (spec_SortRecords_X0 ((sortI (ltOf recOrd) xs).map Record.e)) := by
    rcases Nat.eq_zero_or_pos xs.length with h0 | h0
    · have hx : xs = [] := List.eq_nil_of_length_eq_zero h0
      rw [hx]
      exact .last (exit_ne 0) (spec_SortRecords_L0_x1 _ _ ⟨rfl, trivial⟩)
    · have e := loop_from (P := Tryz.prog) (c := (loopOf Tryz.f30 0)) (exit_ne 0) 1 xs.length f h0 step (stE := spec_SortRecords_X0 ((sortI (ltOf recOrd) xs).map Record.e)) (by
        show Tr _ _ (spec_SortRecords_L0 _ _) _ _
        rw [List.take_length, List.drop_length, List.append_nil]
        exact spec_SortRecords_L0_x1 _ _ ⟨dF (by rw [List.length_map, hlen]; omega), trivial⟩)
      have e1 : sortI (ltOf recOrd) (xs.take 1) ++ xs.drop 1 = xs := by
        obtain ⟨a, ys, rfl⟩ := List.exists_cons_of_length_pos h0
        rfl
      have e2 : f 1 = spec_SortRecords_L0 1 (xs.map Record.e) := by
        show spec_SortRecords_L0 _ _ = _
        rw [e1]; rfl
      rw [e2] at e
      exact e
  exact spec_SortRecords_p0 _ _ ⟨by simp; omega, by simp; omega, flat_map _ Record.flat _, l, trivial⟩

theorem impl_copyRecords_ret (xs : List Record) (hl : xs.length ≤ 1048576) : Ret Tryz.prog 70 [.one (.sl 5 (xs.map Record.e))] [.one (.sl 5 (xs.map Record.e))] :=
  impl_copyRecords_p0 _ ⟨by simp; omega, by simp; omega, flat_map _ Record.flat _, trivial⟩

theorem impl_SortRecords_ret (xs : List Record) (hl : xs.length ≤ 1048576) : Ret Tryz.prog 36 [.one (.sl 5 (xs.map Record.e))] [.one (.sl 5 ((sortI (ltOf recOrd) xs).map Record.e))] := by
  have s := slices_SortFunc_Record_ret xs recOrd recO recT 72 (call_enter (by kernel_rfl)) impl_RecordOrder_ret hl
  rw [sortI_eq recO recT]
  exact impl_SortRecords_p0 _ _ _ ⟨impl_copyRecords_ret xs hl, s, trivial⟩

theorem sortR_length (xs : List Record) : (sortI (ltOf recOrd) xs).length = xs.length := by simp [sortI, sortI_length]

/-! ### PendingAll, PendingOf -/
def heldW (w : Worker) : List Record := w.queue ++ w.staged
def pendRaw (c : Cluster) : List Record := c.workers.flatMap heldW ++ c.links.flatMap Link.queue
def pendAll (c : Cluster) : List Record := sortI (ltOf recOrd) (pendRaw c)
def ofEpoch (e : Int) (xs : List Record) : List Record := xs.filter fun r => r.stamp.epoch == e
def pendOf (c : Cluster) (e : Int) : List Record := ofEpoch e (pendAll c)

theorem flatMap_le {α β : Type} (f : α → List β) (sz : α → Nat) (h : ∀ a, (f a).length ≤ sz a) : ∀ xs : List α, (xs.flatMap f).length ≤ (xs.map sz).sum
  | [] => by simp
  | a :: xs => by
    have := flatMap_le f sz h xs
    have := h a
    simp only [List.flatMap_cons, List.length_append, List.map_cons, List.sum_cons]
    omega

theorem flatMap_take_le {α β : Type} (f : α → List β) (xs : List α) (i : Nat) : ((xs.take i).flatMap f).length ≤ (xs.flatMap f).length := by
  have : xs.flatMap f = (xs.take i).flatMap f ++ (xs.drop i).flatMap f := by rw [← List.flatMap_append, List.take_append_drop]
  rw [this, List.length_append]
  omega

theorem flatMap_take {α β : Type} (f : α → List β) {xs : List α} {i : Nat} {a : α} (h : xs[i]? = some a) : (xs.take (i + 1)).flatMap f = (xs.take i).flatMap f ++ f a := by
  simp [List.take_add_one, h]

theorem Cluster.raw_le {c : Cluster} (h : c.sz ≤ 1048576) : (c.workers.flatMap heldW).length + (c.workers.flatMap Worker.inputs).length + (c.links.flatMap Link.queue).length ≤ 1048576 := by
  have h1 := flatMap_le (fun w => heldW w ++ w.inputs) Worker.sz (fun w => by simp only [Worker.sz, heldW, List.length_append]; omega) c.workers
  have h2 := flatMap_le Link.queue Link.sz (fun l => by simp only [Link.sz]; omega) c.links
  have h3 : (c.workers.flatMap fun w => heldW w ++ w.inputs).length = (c.workers.flatMap heldW).length + (c.workers.flatMap Worker.inputs).length := by
    generalize c.workers = ws
    induction ws with
    | nil => rfl
    | cons w ws ih => simp only [List.flatMap_cons, List.length_append, ih]; omega
  simp only [Cluster.sz, szS] at h
  omega

theorem pendRaw_le {c : Cluster} (h : c.sz ≤ 1048576) : (pendRaw c).length + (c.workers.flatMap Worker.inputs).length ≤ 1048576 := by
  have := Cluster.raw_le h
  simp only [pendRaw, List.length_append]
  omega
theorem pendAll_len (c : Cluster) : (pendAll c).length = (pendRaw c).length := sortR_length _
theorem pendAll_le {c : Cluster} (h : c.sz ≤ 1048576) : (pendAll c).length ≤ 1048576 := by
  have := pendRaw_le h
  rw [pendAll_len]; omega
theorem pendOf_le {c : Cluster} {e : Int} (h : c.sz ≤ 1048576) : (pendOf c e).length ≤ 1048576 := Nat.le_trans (List.length_filter_le ..) (pendAll_le h)
theorem Cluster.wlen_le {c : Cluster} (h : c.sz ≤ 1048576) : c.workers.length ≤ 1048576 := by simp only [Cluster.sz, szS] at h; omega
theorem Cluster.llen_le {c : Cluster} (h : c.sz ≤ 1048576) : c.links.length ≤ 1048576 := by simp only [Cluster.sz, szS] at h; omega

theorem spec_PendingAll_ret (c : Cluster) (hc : c.sz ≤ 1048576) : Ret Tryz.prog 8 [.agg c.e] [.one (.sl 5 ((pendAll c).map Record.e))] := by
  have hraw := Cluster.raw_le hc
  have l0 := loop_upto (P := Tryz.prog) (c := (loopOf Tryz.f8 0)) (exit_ne 0) c.workers.length (fun i : Nat => spec_PendingAll_L0 (c.graph.nodes.map Node.e) c.graph.workers c.graph.cap (c.workers.map Worker.e) (c.links.map Link.e) (c.tokens.map Token.e) (c.news.map News.e) i (((c.workers.take i).flatMap heldW).map Record.e)) (fun i hi => by
    obtain ⟨w, hw⟩ := get_of hi
    have h1 := flatMap_take heldW hw
    have h2 := flatMap_take_le heldW c.workers (i + 1)
    have h4 : ((c.workers.take i).flatMap heldW).length + w.queue.length + w.staged.length ≤ 1048576 := by
      rw [h1, List.length_append, heldW, List.length_append] at h2; omega
    refine tr_to (spec_PendingAll_L0 _ _ _ _ _ _ _ _) (spec_PendingAll_L0_s0 _ _ _ _ _ _ _ _ _ _ _ _ _ _ _ _ _ _ _ _ _ _ _ _ _ ⟨lt1 hi, lt0, lt2 hi, at_map Worker.e hw, by simp only [List.length_map]; omega, by simp only [List.length_map]; omega, flat_map _ Record.flat _, lt0, lt2 hi, at_map Worker.e hw, by simp only [List.length_map, List.length_append]; omega, by simp only [List.length_map, List.length_append]; omega, flat_map _ Record.flat _, up1 hi (Cluster.wlen_le hc), trivial⟩) ?_
    rw [h1, heldW]
    simp only [List.map_append, List.append_assoc]) (spec_PendingAll_L0_x1 _ _ _ _ _ _ _ _ _ ⟨ge1, trivial⟩)
  have l1 := loop_upto (P := Tryz.prog) (c := (loopOf Tryz.f8 1)) (exit_ne 2) c.links.length (fun i : Nat => spec_PendingAll_L1 (c.graph.nodes.map Node.e) c.graph.workers c.graph.cap (c.workers.map Worker.e) (c.links.map Link.e) (c.tokens.map Token.e) (c.news.map News.e) i ((c.workers.flatMap heldW ++ (c.links.take i).flatMap Link.queue).map Record.e)) (fun i hi => by
    obtain ⟨l, hlk⟩ := get_of hi
    have h1 := flatMap_take Link.queue hlk
    have h2 := flatMap_take_le Link.queue c.links (i + 1)
    have h4 : (c.workers.flatMap heldW).length + ((c.links.take i).flatMap Link.queue).length + l.queue.length ≤ 1048576 := by
      rw [h1, List.length_append] at h2; omega
    refine tr_to (spec_PendingAll_L1 _ _ _ _ _ _ _ _) (spec_PendingAll_L1_s0 _ _ _ _ _ _ _ _ _ _ _ _ _ _ _ ⟨lt1 hi, lt0, lt2 hi, at_map Link.e hlk, by simp only [List.length_map, List.length_append]; omega, by simp only [List.length_map, List.length_append]; omega, flat_map _ Record.flat _, up1 hi (Cluster.llen_le hc), trivial⟩) ?_
    rw [h1]
    simp only [List.map_append, List.append_assoc]) (spec_PendingAll_L1_x1 _ _ _ _ _ _ _ _ _ ⟨ge1, trivial⟩)
  rw [List.take_length] at l0 l1
  simp only [List.take_zero, List.flatMap_nil, List.append_nil] at l0 l1
  exact spec_PendingAll_p0 _ _ _ _ _ _ _ _ _ _ ⟨l0, l1, spec_SortRecords_ret (pendRaw c) (by have := pendRaw_le hc; omega), trivial⟩

theorem impl_PendingAll_ret (c : Cluster) (hc : c.sz ≤ 1048576) : Ret Tryz.prog 10 [.agg c.e] [.one (.sl 5 ((pendAll c).map Record.e))] := by
  have hraw := Cluster.raw_le hc
  have l0 := loop_upto (P := Tryz.prog) (c := (loopOf Tryz.f10 0)) (exit_ne 0) c.workers.length (fun i : Nat => impl_PendingAll_L0 (c.workers.map Worker.e) i (((c.workers.take i).flatMap heldW).map Record.e) (c.graph.nodes.map Node.e) c.graph.workers c.graph.cap (c.workers.map Worker.e) (c.links.map Link.e) (c.tokens.map Token.e) (c.news.map News.e)) (fun i hi => by
    obtain ⟨w, hw⟩ := get_of hi
    have h1 := flatMap_take heldW hw
    have h2 := flatMap_take_le heldW c.workers (i + 1)
    have h4 : ((c.workers.take i).flatMap heldW).length + w.queue.length + w.staged.length ≤ 1048576 := by
      rw [h1, List.length_append, heldW, List.length_append] at h2; omega
    refine tr_to (fun l => impl_PendingAll_L0 _ _ l _ _ _ _ _ _ _) (impl_PendingAll_L0_s0 _ _ _ _ _ _ _ _ _ _ _ _ _ _ _ _ _ _ ⟨lt1 hi, lt0, lt2 hi, at_map Worker.e hw, by simp only [List.length_map]; omega, by simp only [List.length_map]; omega, flat_map _ Record.flat _, by simp only [List.length_map, List.length_append]; omega, by simp only [List.length_map, List.length_append]; omega, flat_map _ Record.flat _, up1 hi (Cluster.wlen_le hc), trivial⟩) ?_
    rw [h1, heldW]
    simp only [List.map_append, List.append_assoc]) (impl_PendingAll_L0_x1 _ _ _ _ _ _ _ _ _ _ ⟨ge1, trivial⟩)
  have l1 := loop_upto (P := Tryz.prog) (c := (loopOf Tryz.f10 1)) (exit_ne 2) c.links.length (fun i : Nat => impl_PendingAll_L1 (c.links.map Link.e) i ((c.workers.flatMap heldW ++ (c.links.take i).flatMap Link.queue).map Record.e)) (fun i hi => by
    obtain ⟨l, hlk⟩ := get_of hi
    have h1 := flatMap_take Link.queue hlk
    have h2 := flatMap_take_le Link.queue c.links (i + 1)
    have h4 : (c.workers.flatMap heldW).length + ((c.links.take i).flatMap Link.queue).length + l.queue.length ≤ 1048576 := by
      rw [h1, List.length_append] at h2; omega
    refine tr_to (impl_PendingAll_L1 _ _) (impl_PendingAll_L1_s0 _ _ _ _ _ _ _ _ _ ⟨lt1 hi, lt0, lt2 hi, at_map Link.e hlk, by simp only [List.length_map, List.length_append]; omega, by simp only [List.length_map, List.length_append]; omega, flat_map _ Record.flat _, up1 hi (Cluster.llen_le hc), trivial⟩) ?_
    rw [h1]
    simp only [List.map_append, List.append_assoc]) (impl_PendingAll_L1_x1 _ _ _ ⟨ge1, trivial⟩)
  rw [List.take_length] at l0 l1
  simp only [List.take_zero, List.flatMap_nil, List.append_nil] at l0 l1
  exact impl_PendingAll_p0 _ _ _ _ _ _ _ _ _ _ _ _ _ _ _ _ _ ⟨l0, l1, impl_SortRecords_ret (pendRaw c) (by have := pendRaw_le hc; omega), trivial⟩

theorem spec_OfEpoch_ret (xs : List Record) (e : Int) (hl : xs.length ≤ 1048576) : Ret Tryz.prog 48 [.one (.sl 5 (xs.map Record.e)), .one (I e)] [.one (.sl 5 ((ofEpoch e xs).map Record.e))] := by
  let p := fun r : Record => r.stamp.epoch == e
  have l := loop_upto (P := Tryz.prog) (c := (loopOf Tryz.f48 0)) (exit_ne 0) xs.length (fun i : Nat => spec_OfEpoch_L0 (xs.map Record.e) e i (((xs.take i).filter p).map Record.e)) (fun i hi => by
    obtain ⟨a, ha⟩ := get_of hi
    have hf := filt_len p xs i
    have hs := filter_take p ha
    by_cases hp : p a = true
    · rw [if_pos hp] at hs
      rw [hs, List.map_append]
      exact spec_OfEpoch_L0_s0 _ _ _ _ _ _ _ _ _ _ _ _ _ _ ⟨lt1 hi, lt0, lt2 hi, at_map Record.e ha, hp, lt0, lt2 hi, at_map Record.e ha, by simp; omega, by simp; omega, flat_one a.flat, up1 hi hl, trivial⟩
    · rw [if_neg hp, List.append_nil] at hs
      rw [hs]
      exact spec_OfEpoch_L0_s1 _ _ _ _ _ _ _ _ _ ⟨lt1 hi, lt0, lt2 hi, at_map Record.e ha, Bool.eq_false_iff.2 hp, up1 hi hl, trivial⟩) (spec_OfEpoch_L0_x2 _ _ _ _ ⟨ge1, trivial⟩)
  rw [List.take_length] at l
  exact spec_OfEpoch_p0 _ _ _ ⟨l, trivial⟩

theorem impl_OfEpoch_ret (xs : List Record) (e : Int) (hl : xs.length ≤ 1048576) : Ret Tryz.prog 49 [.one (.sl 5 (xs.map Record.e)), .one (I e)] [.one (.sl 5 ((ofEpoch e xs).map Record.e))] := by
  let p := fun r : Record => r.stamp.epoch == e
  have l := loop_upto (P := Tryz.prog) (c := (loopOf Tryz.f49 0)) (exit_ne 0) xs.length (fun i : Nat => impl_OfEpoch_L0 (xs.map Record.e) e i (((xs.take i).filter p).map Record.e)) (fun i hi => by
    obtain ⟨a, ha⟩ := get_of hi
    have hf := filt_len p xs i
    have hs := filter_take p ha
    by_cases hp : p a = true
    · rw [if_pos hp] at hs
      rw [hs, List.map_append]
      exact impl_OfEpoch_L0_s0 _ _ _ _ _ _ _ _ _ ⟨lt1 hi, lt0, lt2 hi, at_map Record.e ha, hp, by simp; omega, by simp; omega, flat_one a.flat, up1 hi hl, trivial⟩
    · rw [if_neg hp, List.append_nil] at hs
      rw [hs]
      exact impl_OfEpoch_L0_s1 _ _ _ _ _ _ _ _ _ ⟨lt1 hi, lt0, lt2 hi, at_map Record.e ha, Bool.eq_false_iff.2 hp, up1 hi hl, trivial⟩) (impl_OfEpoch_L0_x2 _ _ _ _ ⟨ge1, trivial⟩)
  rw [List.take_length] at l
  exact impl_OfEpoch_p0 _ _ _ ⟨l, trivial⟩

theorem spec_PendingOf_ret (c : Cluster) (e : Int) (hc : c.sz ≤ 1048576) : Ret Tryz.prog 16 [.agg c.e, .one (I e)] [.one (.sl 5 ((pendOf c e).map Record.e))] :=
  spec_PendingOf_p0 _ _ _ _ _ _ _ _ _ _ ⟨spec_PendingAll_ret c hc, spec_OfEpoch_ret (pendAll c) e (pendAll_le hc), trivial⟩

theorem impl_PendingOf_ret (c : Cluster) (e : Int) (hc : c.sz ≤ 1048576) : Ret Tryz.prog 17 [.agg c.e, .one (I e)] [.one (.sl 5 ((pendOf c e).map Record.e))] :=
  impl_PendingOf_p0 _ _ _ _ _ _ _ _ _ _ ⟨impl_PendingAll_ret c hc, impl_OfEpoch_ret (pendAll c) e (pendAll_le hc), trivial⟩

end Go.Proofs.YtbbjajmimckabaaGreat
