/- Orders of stamps and records, SortRecords, PendingAll, PendingOf: what program and reference compute. -/
import Derived.Test.YtenekpkjlgddnaaC0
import Derived.Test.YtenekpkjlgddnaaC6
import Derived.Test.YtenekpkjlgddnaaQ3
set_option linter.unusedVariables false
set_option linter.unusedSimpArgs false
namespace Go.Proofs.Ytenekpkjlgddnaa
open Go.Sx Go.RowKit Go.Sort

def stampKey (s : Stamp) : List Int := [s.epoch, s.turn]
def recKey (r : Record) : List Int := [r.stamp.epoch, r.stamp.turn, r.op, r.key, r.val]
def stampOrd (a b : Stamp) : Int := cmpL (stampKey a) (stampKey b)
def recOrd (a b : Record) : Int := cmpL (recKey a) (recKey b)

theorem recO : SWO (ltOf recOrd) := swo_of recKey 5 fun _ => rfl
theorem recT (x y : Record) : ltOf recOrd x y = false → ltOf recOrd y x = false → x = y :=
  total_of recKey 5 (fun _ => rfl) (fun a b h => by
    obtain ⟨_, ⟨_, _⟩, _, _⟩ := a
    obtain ⟨_, ⟨_, _⟩, _, _⟩ := b
    simp [recKey] at h; simp [h]) x y

theorem stampOrd_eq (a b : Stamp) : stampOrd a b = lexN [ord3 a.epoch b.epoch, ord3 a.turn b.turn] := rfl
theorem recOrd_eq (a b : Record) : recOrd a b = lexN [stampOrd a.stamp b.stamp, ord3 a.op b.op, ord3 a.key b.key, ord3 a.val b.val] := by
  rw [stampOrd_eq, lexN_app]; rfl

theorem call_enter {P : Program} {g : Nat} (h : canCall P g = true) : ∀ args w, (callFunc g args).run P w = .ok (.enter g args) w := by
  intro args w
  unfold canCall at h
  split at h
  · rename_i fn hfn
    simp only [Bool.and_eq_true, Bool.not_eq_true', beq_eq_false_iff_ne, ne_eq] at h
    have hc2' : fn.body ≠ none := by intro e; rw [e] at h; simp at h
    simp [callFunc, hfn, h.1, hc2']
  · cases h

theorem impl_StampOrder_ret (a b : Stamp) : Ret Try.prog 84 [.agg a.e, .agg b.e] [.one (I (stampOrd a b))] :=
  impl_StampOrder_p0 _ _ _ _ _ ⟨impl_orderOf_ret [a.epoch, a.turn] [b.epoch, b.turn] rfl (by simp), trivial⟩

theorem impl_RecordOrder_ret (a b : Record) : Ret Try.prog 62 [.agg a.e, .agg b.e] [.one (I (recOrd a b))] := by
  have o1 := impl_StampOrder_ret a.stamp b.stamp
  have o2 := impl_orderOf_ret [a.op, a.key, a.val] [b.op, b.key, b.val] rfl (by simp)
  rw [recOrd_eq, lexN_cons]
  split
  · rename_i h
    rw [h] at o1
    exact impl_RecordOrder_p1 _ _ _ _ _ _ _ _ _ _ _ _ ⟨o1, rfl, o2, trivial⟩
  · rename_i h
    exact impl_RecordOrder_p0 _ _ _ _ _ _ _ _ _ _ _ ⟨o1, by simpa using h, trivial⟩

theorem impl_copyRecords_ret (xs : List Record) (hl : xs.length ≤ 8388608) : Ret Try.prog 35 [.one (.sl 5 (xs.map Record.e))] [.one (.sl 5 (xs.map Record.e))] :=
  impl_copyRecords_p0 _ ⟨by simp; omega, by simp; omega, flat_map _ Record.flat _, trivial⟩

theorem impl_SortRecords_ret (xs : List Record) (hl : xs.length ≤ 8388608) : Ret Try.prog 39 [.one (.sl 5 (xs.map Record.e))] [.one (.sl 5 ((sortI (ltOf recOrd) xs).map Record.e))] := by
  have s := slices_SortFunc_Record_ret xs recOrd recO recT 62 (call_enter (by kernel_rfl)) impl_RecordOrder_ret hl
  rw [sortI_eq recO recT]
  exact impl_SortRecords_p0 _ _ _ ⟨impl_copyRecords_ret xs hl, s, trivial⟩

theorem sortR_length (xs : List Record) : (sortI (ltOf recOrd) xs).length = xs.length := by simp [sortI, sortI_length]

/-! ### PendingAll, PendingOf -/
end Go.Proofs.Ytenekpkjlgddnaa
