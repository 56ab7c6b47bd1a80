/- A call with arguments handed over: what the caller has behind it. -/
import Derived.Test.YtbbjajmimckabaaGreatR19
set_option linter.unusedVariables false
set_option linter.unusedSimpArgs false
namespace Go.Sx
open Go.RowKit

theorem tokH_false {hs : List HL} {t : Nat} (h : tokH hs t = false) : ∀ y ∈ hs, y.t ≠ t := by
  intro y hy e
  simp only [tokH, List.any_eq_false, beq_iff_eq] at h
  exact h y hy e

theorem findH_no {hs : List HL} {t : Nat} (h : tokH hs t = false) (q : List (Nat × Nat)) : findH t q hs = none := by
  cases e : findH t q hs with
  | none => rfl
  | some x =>
    obtain ⟨g, q'⟩ := x
    obtain ⟨y, hy, hf, _⟩ := findH_some e
    exact absurd (fit_tok hf).1 (tokH_false h y hy)

/-- What the caller knows of what it hands over. -/
structure HandAt (w : World) (ω : Own) (τ : Nat → Nat × Value) (h : HL) (u : Value) : Prop where
  rep : Rep w ω (fun q o => o = .tok h.t (h.p.toList ++ q)) (.sl h.k h.es) u
  root : h.p = none → τ h.t = (h.k, u)
  cell : ∀ a b, h.p = some (a, b) → ∃ (kT b0 off len cap : Nat) (arr : Array Value) (ty : TypeId) (fr : Nat × Nat), τ h.t = (kT, .slice (some ⟨b0, off, none⟩) len cap) ∧ ω b0 = .tok h.t [] ∧ w.heap[b0]? = some (.cells arr ty fr) ∧ arr[off + a * kT + b]? = some u

/-- The tree of which parts are handed over. -/
structure SubAt (w : World) (ω : Own) (τ : Nat → Nat × Value) (hs : List HL) (tS kS : Nat) (esS : List (List D)) : Prop where
  ex : ∀ h ∈ hs, ∀ p, h.p = some p → h.t = tS → ∃ (es0 : List (List D)) (y : Value) (ds : List D) (a : Nat), Sat w ω τ (.sl (.own tS) kS es0) y ∧ es0[a]? = some ds ∧ ds.length = kS ∧ esS = es0.set a (subRow hs ds) ∧
    ∀ x ∈ hs, ∀ q, x.p = some q → x.t = tS ∧ q.1 = a ∧ ∃ es', x.post = some es'

theorem subRow_length : ∀ (hs : List HL) (ds : List D), (subRow hs ds).length = ds.length
  | [], _ => rfl
  | h :: r, ds => by
    simp only [subRow]
    split
    · rw [subRow_length r, List.length_set]
    · exact subRow_length r ds

/-- A cell of the row behind the call: a part that was handed over, or as it was. -/
theorem subRow_get {y : Nat} {d : D} : ∀ {hs : List HL} {ds : List D}, (subRow hs ds)[y]? = some d → (∃ h ∈ hs, ∃ a es', h.p = some (a, y) ∧ h.post = some es' ∧ d = .sl h.k es') ∨ ds[y]? = some d ∧ ∀ h ∈ hs, ∀ a es', h.p = some (a, y) → h.post = some es' → False
  | [], ds, h => .inr ⟨h, fun _ hh => by cases hh⟩
  | h :: r, ds, hd => by
    simp only [subRow] at hd
    split at hd
    · rename_i p es' e1 e2
      rcases subRow_get hd with ⟨x, hx, a, es2, h1, h2, h3⟩ | ⟨h1, h2⟩
      · exact .inl ⟨x, List.mem_cons_of_mem _ hx, a, es2, h1, h2, h3⟩
      · rw [List.getElem?_set] at h1
        split at h1
        · rename_i hp
          split at h1
          · simp only [Option.some.injEq] at h1
            exact .inl ⟨h, List.mem_cons_self, p.1, es', by rw [e1, ← hp], e2, h1.symm⟩
          · cases h1
        · rename_i hp
          refine .inr ⟨h1, fun x hx a es2 h3 h4 => ?_⟩
          rcases List.mem_cons.1 hx with rfl | hx
          · rw [e1] at h3
            simp only [Option.some.injEq] at h3
            rw [h3] at hp
            exact hp rfl
          · exact h2 x hx a es2 h3 h4
    · rename_i hne
      rcases subRow_get hd with ⟨x, hx, a, es2, h1, h2, h3⟩ | ⟨h1, h2⟩
      · exact .inl ⟨x, List.mem_cons_of_mem _ hx, a, es2, h1, h2, h3⟩
      · refine .inr ⟨h1, fun x hx a es2 h3 h4 => ?_⟩
        rcases List.mem_cons.1 hx with rfl | hx
        · exact hne _ _ h3 h4
        · exact h2 x hx a es2 h3 h4

theorem RelAt.calledG {w0 : Base} {st : St} {a : Act} {w w' : World} {ω : Own} {τ : Nat → Nat × Value} (hrel : RelAt w0 st a w ω τ) (t0 : Nat) {hs : List HL} {rs : List AD} {v : Value} {H : Nat → Nat × Value}
    (hok : handsOk hs = true) (hfit : resFits rs = true) (htg : t0 + 10000 ≤ giv) (hrange : ∀ h ∈ hs, ¬ (t0 ≤ h.t ∧ h.t < t0 + 10000)) (hb : Bel ⟨w, fun b => handOwn hs ω b ≠ .imm, H⟩ w') (ωc : Own)
    (hc1 : ∀ b, b < w.heap.size → handOwn hs ω b = .imm → ωc b = .imm) (hc2 : ∀ b, ωc b ≠ .imm → (∃ t q, ωc b = .tok t q) ∧ ∃ arr ty, w'.heap[b]? = some (.cells arr ty (0, 0))) (hc3 : ResAll w' ωc rs v)
    (vals : HL → Value) (hkept : ∀ h ∈ hs, ∀ es', h.post = some es' → Rep w' ωc (Tag.own (gTok h.i h.j)).R (.sl h.k es') (vals h)) (hval : ∀ h ∈ hs, HandAt w ω τ h (vals h))
    {tS kS : Nat} {esS : List (List D)} (hsub : SubAt w ω τ hs tS kS esS) :
    ∃ ω' τ', RelAt w0 (st.map (callLeaf hs t0 tS kS esS)) a w' ω' τ' ∧ SatP (Sat w' ω' τ') (resPV t0 rs) v := by
  classical
  let ω' : Own := fun b => if b < w.heap.size ∧ handOwn hs ω b = .imm then calOld t0 (ω b) else backOwn hs t0 (ωc b)
  let τ' : Nat → Nat × Value := fun s => if t0 ≤ s ∧ s < t0 + 10000 then (hdrK rs (s - t0), hdrV rs v (s - t0)) else τ s
  have hold : ∀ b, b < w.heap.size → handOwn hs ω b = .imm → ω' b = calOld t0 (ω b) := fun b hb h => by simp only [ω']; rw [if_pos ⟨hb, h⟩]
  have hnew : ∀ b, ωc b ≠ .imm → ω' b = backOwn hs t0 (ωc b) := fun b hb => by
    simp only [ω']
    rw [if_neg]
    rintro ⟨h1, h2⟩
    exact hb (hc1 b h1 h2)
  have hblk : ∀ b, b < w.heap.size → handOwn hs ω b = .imm → w'.heap[b]? = w.heap[b]? := fun b hlt h => hb.block b hlt (fun hn => hn h)
  have himm : ∀ b, ω b = .imm → handOwn hs ω b = .imm := fun b h => by simp only [handOwn, h]
  have hboxI : ∀ b id, ω b = .box id → handOwn hs ω b = .imm := fun b id h => by simp only [handOwn, h]
  have htok : ∀ b s q, ω b = .tok s q → findH s q hs = none → handOwn hs ω b = .imm := fun b s q h h2 => by simp only [handOwn, h, h2]
  have hτ : ∀ h ∈ hs, τ' h.t = τ h.t := fun h hh => by simp only [τ']; rw [if_neg (hrange h hh)]
  -- tags that lead into nothing that is handed over
  have keep : ∀ (g g' : Tag) (b : Nat) (q : List (Nat × Nat)), g.mentH hs = false → calTag t0 g = some g' → b < w.heap.size → g.R q (ω b) → g'.R q (ω' b) ∧ w'.heap[b]? = w.heap[b]? := by
    intro g g' b q hm hg hlt hq
    have hi : handOwn hs ω b = .imm := by
      cases g with
      | free => exact himm b hq
      | own s => exact htok b s q hq (findH_no hm q)
      | ro s =>
        rcases hq with h | ⟨q', h⟩
        · exact himm b h
        · exact htok b s q' h (findH_no hm q')
    refine ⟨?_, hblk b hlt hi⟩
    rw [hold b hlt hi]
    cases g with
    | free => simp only [calTag, Option.some.injEq] at hg; subst hg; simp only [Tag.R] at hq ⊢; rw [hq]; rfl
    | own s =>
      simp only [Tag.R] at hq
      simp only [calTag] at hg
      rw [hq]
      simp only [calOld]
      split at hg
      · simp only [Option.some.injEq] at hg; subst hg; rw [if_pos ‹_›]; rfl
      · simp only [Option.some.injEq] at hg; subst hg; rw [if_neg ‹_›]; rfl
    | ro s =>
      simp only [Tag.R] at hq
      simp only [calTag] at hg
      split at hg
      · simp only [Option.some.injEq] at hg; subst hg
        rcases hq with h | ⟨q', h⟩
        · rw [h]; rfl
        · rw [h]; simp only [calOld]; rw [if_pos ‹_›]; rfl
      · simp only [Option.some.injEq] at hg; subst hg
        rcases hq with h | ⟨q', h⟩
        · rw [h]; exact .inl rfl
        · rw [h]; simp only [calOld]; rw [if_neg ‹_›]; exact .inr ⟨q', rfl⟩
  have khdr : ∀ (g g' : Tag) (y : Nat × Value), calTag t0 g = some g' → g.hdr τ y → g'.hdr τ' y := by
    intro g g' y hg hy
    cases g with
    | free => simp only [calTag, Option.some.injEq] at hg; subst hg; exact trivial
    | own s =>
      simp only [calTag] at hg
      split at hg
      · simp only [Option.some.injEq] at hg; subst hg; exact trivial
      · simp only [Option.some.injEq] at hg; subst hg
        simp only [Tag.hdr, τ'] at hy ⊢
        rw [if_neg ‹_›]; exact hy
    | ro s =>
      simp only [calTag] at hg
      split at hg
      · simp only [Option.some.injEq] at hg; subst hg; exact trivial
      · simp only [Option.some.injEq] at hg; subst hg; exact trivial
  have kbox : ∀ id b, ω b = .box id → ω' b = .box id ∧ w'.heap[b]? = w.heap[b]? := by
    intro id b hbx
    have hlt := hrel.owned.lt (b := b) (by simp [hbx])
    have hi := hboxI b id hbx
    exact ⟨by rw [hold b hlt hi, hbx]; rfl, hblk b hlt hi⟩
  -- what the callee leaves of what it was handed
  have kback : ∀ h ∈ hs, ∀ es', h.post = some es' → Rep w' ω' (fun q o => o = .tok h.t (h.p.toList ++ q)) (.sl h.k es') (vals h) := by
    intro h hh es' he
    refine (hkept h hh es' he).frame fun b q _ hq => ⟨?_, rfl⟩
    simp only [Tag.R] at hq
    rw [hnew b (by rw [hq]; simp), hq]
    simp only [backOwn]
    rw [if_pos (by simp [gTok]), backH_of hok hh]
  have hsat : ∀ l y, Sat w ω τ l y → Sat w' ω' τ' (callLeaf hs t0 tS kS esS l) y := by
    intro l y hs'
    have plain : ∀ g k es, g.mentH hs = false → Sat w ω τ (.sl g k es) y → Sat w' ω' τ' (Leaf.re (calTag t0) (fun _ => true) (.sl g k es)) y := by
      intro g k es hm hsl
      simp only [Leaf.re]
      cases hg : calTag t0 g with
      | none => exact trivial
      | some g' => exact ⟨hsl.1.frame fun b q hlt hq => keep g g' b q hm hg hlt hq, khdr g g' _ hg hsl.2⟩
    cases l with
    | und => exact trivial
    | v x => exact hs'
    | sb c => exact hs'
    | ptr id off =>
      obtain ⟨b, h1, h2⟩ := hs'
      exact ⟨b, (kbox id b h1).1, h2⟩
    | clo f ids =>
      obtain ⟨bs, e, hn, hi⟩ := hs'
      simp only [callLeaf, Leaf.mentH0, Bool.false_eq_true, if_false, Leaf.re]
      split
      · refine ⟨bs, e, hn, fun i id hid => ?_⟩
        obtain ⟨b, h1, h2⟩ := hi i id hid
        exact ⟨b, h1, (kbox id b h2).1⟩
      · exact trivial
    | rp ds off =>
      obtain ⟨b, e, hr⟩ := hs'
      exact ⟨b, e, hr.frame fun b q hlt hq => keep .free .free b q rfl rfl hlt hq⟩
    | fd d => exact Rep.frame hs' fun b q hlt hq => keep .free .free b q rfl rfl hlt hq
    | sn t i j k es =>
      simp only [callLeaf]
      by_cases hm : Leaf.mentH0 hs (.sn t i j k es) = true
      · rw [if_pos hm]; exact trivial
      · rw [if_neg hm]
        simp only [Bool.not_eq_true] at hm
        replace hm : tokH hs t = false := hm
        simp only [Leaf.re]
        split
        · rename_i t' hg
          split
          · rename_i ht
            subst ht
            obtain ⟨h1, kT, b, off, len, cap, arr, ty, fr, h2, h5, h3, h4⟩ := hs'
            have hlt : b < w.heap.size := (Array.getElem?_eq_some_iff.1 h3).1
            have hk := keep (.own t') _ b [] hm hg hlt h5
            exact ⟨h1.frame fun c q hc hq => keep (.own t') _ c _ hm hg hc hq, kT, b, off, len, cap, arr, ty, fr, khdr _ _ _ hg h2, hk.1, hk.2.trans h3, h4⟩
          · exact trivial
        · exact trivial
    | np t vs =>
      simp only [callLeaf, Leaf.mentH0, if_true]
      exact trivial
    | ep g k es i j =>
      simp only [callLeaf]
      by_cases hm : Leaf.mentH0 hs (.ep g k es i j) = true
      · rw [if_pos hm]; exact trivial
      · rw [if_neg hm]
        simp only [Bool.not_eq_true] at hm
        replace hm : g.mentH hs = false := hm
        obtain ⟨b, off, cap, e, hi, hr, hh⟩ := hs'
        simp only [Leaf.re]
        cases hg : calTag t0 g with
        | none => exact trivial
        | some g' => exact ⟨b, off, cap, e, hi, hr.frame fun b q hlt hq => keep g g' b q hm hg hlt hq, khdr g g' _ hg hh⟩
    | sl g k es =>
      cases g with
      | free => exact plain .free k es rfl hs'
      | ro s =>
        simp only [callLeaf]
        by_cases hm : Leaf.mentH0 hs (.sl (.ro s) k es) = true
        · rw [if_pos hm]; exact trivial
        · rw [if_neg hm]
          simp only [Bool.not_eq_true] at hm
          exact plain (.ro s) k es hm hs'
      | own s =>
        simp only [callLeaf]
        cases hf : firstH s hs with
        | none => exact plain (.own s) k es (firstH_none hf) hs'
        | some h =>
          obtain ⟨hh, rfl⟩ := firstH_some hf
          simp only
          have hv := hval h hh
          have hdr : τ h.t = (k, y) := hs'.2
          split
          · -- the whole tree, and it stands there still
            rename_i es' hp he
            have e1 := hv.root hp
            rw [hdr] at e1
            simp only [Prod.mk.injEq] at e1
            obtain ⟨rfl, e2⟩ := e1
            have hr := kback h hh es' he
            rw [hp, ← e2] at hr
            exact ⟨hr, by simp only [Tag.hdr]; rw [hτ h hh, hdr]⟩
          · exact trivial
          · -- parts of it
            rename_i p hp
            split
            · rename_i htS
              obtain ⟨es0, y0, ds, a0, hs0, hds, hdl, rfl, hall⟩ := hsub.ex h hh p hp htS
              have hdr0 : τ tS = (kS, y0) := hs0.2
              rw [← htS, hdr] at hdr0
              simp only [Prod.mk.injEq] at hdr0
              obtain ⟨rfl, rfl⟩ := hdr0
              obtain ⟨hr0, _⟩ := hs0
              have hlen : (es0.set a0 (subRow hs ds)).length = es0.length := List.length_set
              have ha0 : a0 < es0.length := (List.getElem?_eq_some_iff.1 hds).1
              refine ⟨?_, by simp only [Tag.hdr]; rw [hτ h hh, hdr]⟩
              generalize hy : y = yy at hr0
              cases hr0 with
              | nil => simp at ha0
              | row R k es0 b0 off cap arr ty fr us hbk hR hcp hsz hk hu hd =>
                subst hy
                have hR0 : ω b0 = .tok h.t [] := by rw [htS]; exact hR
                -- nothing of the tree's own row is handed over
                have hnofit : ∀ x ∈ hs, x.fit tS [] = none := by
                  intro x hx
                  unfold HL.fit
                  split
                  · rename_i ext
                    cases hxp : x.p with
                    | some q => simp
                    | none =>
                      exfalso
                      have hne : HL.apart h x = true ∨ HL.apart x h = true ∨ h = x := by
                        rcases handsOk_mem hok h hh x hx with e | e | e
                        · exact .inr (.inr e)
                        · exact .inl e
                        · exact .inr (.inl e)
                      have hap : ∀ y z : HL, y.t = z.t → (y.p = none ∨ z.p = none) → HL.apart y z = true → False := by
                        intro y z e1 e2 e3
                        simp only [HL.apart, e1, Bool.and_eq_true, Bool.or_eq_true, bne_self_eq_false, Bool.false_eq_true, false_or] at e3
                        rcases e2 with e2 | e2
                        · simp [e2] at e3
                        · rw [e2] at e3
                          cases hyp : y.p <;> simp [hyp] at e3
                      rcases hne with e | e | e
                      · exact hap h x (by rw [ext, htS]) (.inr hxp) e
                      · exact hap x h (by rw [ext, htS]) (.inl hxp) e
                      · rw [← e, hp] at hxp; cases hxp
                  · rfl
                have hfn : findH tS [] hs = none := by
                  cases e : findH tS [] hs with
                  | none => rfl
                  | some z =>
                    obtain ⟨g, q'⟩ := z
                    obtain ⟨x, hx, hxf, _⟩ := findH_some e
                    rw [hnofit x hx] at hxf; cases hxf
                have hb0lt : b0 < w.heap.size := (Array.getElem?_eq_some_iff.1 hbk).1
                have hb0i : handOwn hs ω b0 = .imm := htok b0 tS [] hR hfn
                have hrangeS : ¬ (t0 ≤ tS ∧ tS < t0 + 10000) := by rw [← htS]; exact hrange h hh
                have hown0 : ∀ b q, b < w.heap.size → ω b = .tok tS q → findH tS q hs = none → ω' b = .tok tS q ∧ w'.heap[b]? = w.heap[b]? := by
                  intro b q hlt hq hn
                  have hi := htok b tS q hq hn
                  refine ⟨?_, hblk b hlt hi⟩
                  rw [hold b hlt hi, hq]
                  simp only [calOld]
                  rw [if_neg hrangeS]
                have hold' : ∀ x y d, cellAt es0 x y = some d → (∀ z ∈ hs, z.p ≠ some (x, y)) → Rep w' ω' (fun q => (Tag.own tS).R ((x, y) :: q)) d (us x y) := by
                  intro x y d hc hz
                  refine (hd x y d hc).frame fun b q hlt hq => ?_
                  refine hown0 b _ hlt hq ?_
                  cases e : findH tS ((x, y) :: q) hs with
                  | none => rfl
                  | some r =>
                    obtain ⟨g, q'⟩ := r
                    obtain ⟨z, hz1, hzf, _⟩ := findH_some e
                    obtain ⟨e1, e2⟩ := fit_tok hzf
                    exfalso
                    cases hzp : z.p with
                    | none =>
                      -- a whole tree and a part of it are not handed over together
                      have := hnofit z hz1
                      unfold HL.fit at this
                      rw [if_pos e1, hzp] at this
                      simp at this
                    | some r =>
                      rw [hzp] at e2
                      simp only [Option.toList_some, List.cons_append, List.nil_append, List.cons.injEq] at e2
                      exact hz z hz1 (by rw [hzp, ← e2.1])
                have key : ∀ x y d, cellAt (es0.set a0 (subRow hs ds)) x y = some d → Rep w' ω' (fun q => (Tag.own tS).R ((x, y) :: q)) d (us x y) := by
                  intro x y d hc
                  by_cases hx : x = a0
                  · subst hx
                    have hc2 : (subRow hs ds)[y]? = some d := by
                      simpa [cellAt, List.getElem?_set, ha0] using hc
                    rcases subRow_get hc2 with ⟨z, hz, a1, es', h1, h2, rfl⟩ | ⟨h1, h2⟩
                    · obtain ⟨e1, e2, _⟩ := hall z hz _ h1
                      have e2 : a1 = x := e2
                      subst e2
                      obtain ⟨kT, b1, off1, len1, cap1, arr1, ty1, fr1, g1, g2, g3, g4⟩ := (hval z hz).cell _ _ h1
                      rw [e1, ← htS, hdr] at g1
                      simp only [Prod.mk.injEq, Value.slice.injEq, Option.some.injEq, Addr.mk.injEq] at g1
                      obtain ⟨rfl, ⟨rfl, rfl, _⟩, _, _⟩ := g1
                      rw [hbk] at g3
                      simp only [Option.some.injEq, Obj.cells.injEq] at g3
                      obtain ⟨rfl, _, _⟩ := g3
                      have hyd : y < ds.length := by
                        have := (List.getElem?_eq_some_iff.1 hc2).1
                        rwa [subRow_length] at this
                      have hcell : cellAt es0 a1 y = some ds[y] := by simp [cellAt, hds, hyd]
                      have hval2 : us a1 y = vals z := by
                        have := hu a1 y _ hcell
                        rw [g4] at this
                        exact (Option.some.inj this).symm
                      rw [hval2]
                      have hr := kback z hz es' h2
                      rw [h1, e1] at hr
                      exact hr
                    · have hcell : cellAt es0 x y = some d := by simp [cellAt, hds, h1]
                      refine hold' x y d hcell fun z hz hzp => ?_
                      obtain ⟨_, _, es', he⟩ := hall z hz _ hzp
                      exact h2 z hz x es' hzp he
                  · have hcell : cellAt es0 x y = some d := by
                      simp only [cellAt, List.getElem?_set] at hc
                      rw [if_neg (by omega)] at hc
                      exact hc
                    refine hold' x y d hcell fun z hz hzp => ?_
                    obtain ⟨_, e2, _⟩ := hall z hz _ hzp
                    exact hx e2
                have hb1 := hown0 b0 [] hb0lt hR hfn
                have := Rep.row (w := w') (ω := ω') (Tag.own tS).R k (es0.set a0 (subRow hs ds)) b0 off cap arr ty fr us (hb1.2.trans hbk) hb1.1 (by rw [hlen]; exact hcp) hsz
                  (fun e he => by
                    rcases List.mem_or_eq_of_mem_set he with h9 | rfl
                    · exact hk e h9
                    · rw [subRow_length]; exact hdl)
                  (fun x y d hc => by
                    have hxl : x < es0.length ∧ y < k := by
                      have hk' : ∀ e ∈ es0.set a0 (subRow hs ds), e.length = k := fun e he => by
                        rcases List.mem_or_eq_of_mem_set he with h9 | rfl
                        · exact hk e h9
                        · rw [subRow_length]; exact hdl
                      have h9 : x < (es0.set a0 (subRow hs ds)).length ∧ y < k := by
                        unfold cellAt at hc
                        cases e9 : (es0.set a0 (subRow hs ds))[x]? with
                        | none => simp [e9] at hc
                        | some row =>
                          simp only [e9, Option.bind_some] at hc
                          have hm := hk' row (List.mem_of_getElem? e9)
                          exact ⟨(List.getElem?_eq_some_iff.1 e9).1, by rw [← hm]; exact (List.getElem?_eq_some_iff.1 hc).1⟩
                      rw [hlen] at h9
                      exact h9
                    have hrow : (es0[x]'hxl.1).length = k := hk _ (List.getElem_mem hxl.1)
                    exact hu x y ((es0[x]'hxl.1)[y]'(by omega)) (by simp [cellAt, hxl.1, hrow, hxl.2]))
                  key
                rw [hlen] at this
                rw [htS]
                exact this
            · exact trivial
  have cell : ∀ (n : Nat) (d : D) (u : Value), n < 10000 → hdrV rs v n = u → (∀ k es, d = .sl k es → hdrK rs n = k) → Rep w' ωc (Tag.own n).R d u → Sat w' ω' τ' (d.resLeaf (t0 + n)) u := by
    intro n d u hn hv hk hr
    cases d with
    | v x =>
      have e : u = x := by cases hr; rfl
      subst e
      unfold D.resLeaf
      split
      · rename_i h; cases h; exact rfl
      · rename_i h; cases h; exact rfl
      · rename_i h; cases h
      · exact trivial
      · exact trivial
    | ptr ds => exact trivial
    | cl g caps => exact trivial
    | sl k es =>
      refine ⟨hr.frame fun b q hlt hq => ⟨?_, rfl⟩, ?_⟩
      · simp only [Tag.R] at hq ⊢
        rw [hnew b (by rw [hq]; simp), hq]
        simp only [backOwn]
        rw [if_neg (by simp only [giv]; omega)]
      · simp only [Tag.hdr, τ']
        rw [if_pos (by omega), show t0 + n - t0 = n by omega, hv, hk k es rfl]
  have cellA : ∀ (r : Nat) (ad : AD) (y : Value), r < 100 → (∀ ds, ad = .agg ds → ds.length < 100) → rs[r]? = some ad → (∀ j, j < 100 → hdrV rs v (100 * r + j) = y.cells.getD j undef) → CellRes w' ωc r ad y → SatA (Sat w' ω' τ') (ad.res (t0 + 100 * r)) y := by
    intro r ad y hr hds hrs hv hcr
    have hkk : ∀ j, j < 100 → hdrK rs (100 * r + j) = (match AD.cell j ad with | some (.sl k _) => k | _ => 0) := by
      intro j hj
      unfold hdrK
      rw [show (100 * r + j) / 100 = r by omega, show (100 * r + j) % 100 = j by omega, hrs]
      rfl
    cases ad with
    | one d =>
      have h1 := hcr.oneCell
      have h2 := hv 0 (by omega)
      rw [oneCell_cells h1] at h2
      have := cell (100 * r) d y (by omega) (by simpa using h2) (fun k es e => by
        have := hkk 0 (by omega)
        rw [Nat.add_zero] at this
        rw [this, e]; rfl) hcr
      exact this
    | agg ds =>
      obtain ⟨vs, rfl, hn, hj⟩ := hcr
      refine ⟨vs, rfl, by rw [resLeaves_length]; exact hn, fun j l hl => ?_⟩
      rw [resLeaves_get, Option.map_eq_some_iff] at hl
      obtain ⟨d, hd, rfl⟩ := hl
      obtain ⟨u, hu, hru⟩ := hj j d hd
      have hjl : j < 100 := by
        have := (List.getElem?_eq_some_iff.1 hd).1
        have := hds ds rfl
        omega
      refine ⟨u, hu, ?_⟩
      have := cell (100 * r + j) d u (by omega) (by rw [hv j hjl]; simp [Value.cells, Array.getD_eq_getD_getElem?, hu]) (fun k es e => by
        rw [hkk j hjl]
        simp only [AD.cell, hd, e]) hru
      rw [show t0 + 100 * r + (0 + j) = t0 + (100 * r + j) by omega]
      exact this
  simp only [resFits, Bool.and_eq_true, decide_eq_true_eq] at hfit
  have hds : ∀ (r : Nat) (ad : AD), rs[r]? = some ad → ∀ ds, ad = .agg ds → ds.length < 100 := by
    intro r ad hr ds e
    have := List.all_eq_true.1 hfit.2 ad (List.mem_of_getElem? hr)
    subst e
    simpa using this
  have hmine : ∀ b, ω b ≠ .imm → w0.mine b := fun b h => (hrel.owned b h).1
  have hgm : ∀ b, handOwn hs ω b ≠ .imm → ω b ≠ .imm := fun b h e => h (himm b e)
  refine ⟨ω', τ', hrel.turn _ hsat ?_ ?_ (fun id b hbx => kbox id b hbx) ?_ (fun s hs => by simp only [τ']; rw [if_neg (by omega)]), ?_⟩
  · refine ⟨hb.os.trans hrel.below.os, hb.tape.trans hrel.below.tape, hb.output.trans hrel.below.output, Nat.le_trans hrel.below.size hb.size, fun k hk hg => ?_, Nat.le_trans hrel.below.drawn hb.drawn⟩
    have hk2 : k < w.heap.size := Nat.lt_of_lt_of_le hk hrel.below.size
    have hi : handOwn hs ω k = .imm := by
      cases e : handOwn hs ω k with
      | imm => rfl
      | _ =>
        have := hmine k (hgm k (by rw [e]; simp))
        rcases this with h | h
        · omega
        · exact absurd h hg
    exact (hblk k hk2 hi).trans (hrel.below.block k hk hg)
  · intro b hbi
    by_cases hc : b < w.heap.size ∧ handOwn hs ω b = .imm
    · rw [hold b hc.1 hc.2] at hbi
      have h2 : ω b ≠ .imm := fun e => by rw [e] at hbi; exact hbi rfl
      obtain ⟨h3, arr, ty, h4⟩ := hrel.owned b h2
      exact ⟨h3, arr, ty, (hblk b hc.1 hc.2).trans h4⟩
    · have h2 : ωc b ≠ .imm := fun e => by
        simp only [ω'] at hbi
        rw [if_neg hc, e] at hbi
        exact hbi rfl
      obtain ⟨_, arr, ty, h4⟩ := hc2 b h2
      refine ⟨?_, arr, ty, h4⟩
      rcases Nat.lt_or_ge b w.heap.size with hlt | hge
      · exact hmine b (hgm b fun e => hc ⟨hlt, e⟩)
      · exact .inl (by have := hrel.below.size; omega)
  · intro id b hbx
    by_cases hc : b < w.heap.size ∧ handOwn hs ω b = .imm
    · rw [hold b hc.1 hc.2] at hbx
      cases e : ω b with
      | imm => rw [e] at hbx; cases hbx
      | box i => rw [e] at hbx; exact hbx
      | tok s q => rw [e] at hbx; simp only [calOld] at hbx; split at hbx <;> cases hbx
    · simp only [ω'] at hbx
      rw [if_neg hc] at hbx
      cases e : ωc b with
      | imm => rw [e] at hbx; cases hbx
      | box i => rw [e] at hbx; cases hbx
      | tok s q =>
        rw [e] at hbx
        simp only [backOwn] at hbx
        split at hbx
        · split at hbx <;> cases hbx
        · cases hbx
  · cases rs with
    | nil =>
      obtain ⟨vs, rfl, hn, _⟩ := hc3
      exact ⟨vs, rfl, hn, fun i a ha => by simp [resAls] at ha⟩
    | cons ad rest =>
      cases rest with
      | nil =>
        have := cellA 0 ad v (by omega) (hds 0 ad rfl) rfl (fun j hj => by
          unfold hdrV
          simp only [Nat.mul_zero, Nat.zero_add]
          rw [Nat.mod_eq_of_lt hj]) hc3
        exact this
      | cons ad2 rest =>
        obtain ⟨vs, rfl, hn, hv⟩ := hc3
        refine ⟨vs, rfl, by rw [resAls_length]; exact hn, fun i a ha => ?_⟩
        rw [resAls_get, Option.map_eq_some_iff] at ha
        obtain ⟨ad', h1, rfl⟩ := ha
        obtain ⟨y, hy, hcy⟩ := hv i ad' h1
        have hil : i < 100 := by
          have := (List.getElem?_eq_some_iff.1 h1).1
          omega
        refine ⟨y, hy, ?_⟩
        have := cellA i ad' y hil (hds i ad' h1) h1 (fun j hj => by
          unfold hdrV
          simp only
          rw [show (100 * i + j) / 100 = i by omega, show (100 * i + j) % 100 = j by omega]
          simp [Array.getD_eq_getD_getElem?, hy]) hcy
        rw [Nat.zero_add]
        exact this
end Go.Sx
