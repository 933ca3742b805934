/- Part 1 of what the law's proof rests on: AiFrame3, AiFrame4, AiFrame5, AiFrame6, AiFrame7, AiFrame8, AiFrame9, AiFrame10, AiDraw, AiDraw2, AiDraw3, AiDraw4, AiDraw5, AiDraw6, AiTop, AiSym, AiThaw, AiSimp, AiCr, AiJoin. Conditions: none. -/
import Derived.Test.YtnnejoalamkkpaaPart0
import Derived.IntWalk
import Derived.SizedLaws
import Derived.Carry
import Derived.ChangeMaps5
set_option linter.unusedVariables false
set_option linter.unusedSimpArgs false
/- One step that calls nothing, in a frame. -/
namespace Go.AI
open Go

variable {P : Program} {e : CEnv} {n nb : Nat} {E : Ent} {hp hp' : Array Go.Obj} {G : Gh} {st : St} {locs : Tr V} {a : Act} {o : Oper}

theorem inv_load {l : Option Nat} {y : Opd} (hc : compileOp P e o = some (.load l y)) : ∃ t x, o.op = .load t x ∧ loadN P t = some l ∧ e.res x = some y := by
  unfold compileOp at hc
  split at hc
  case h_8 t x ho =>
    split at hc
    · cases hc; exact ⟨t, x, ho, by assumption, by assumption⟩
    · cases hc
  all_goals (repeat' split at hc) <;> simp only [Option.map_eq_some_iff, Option.some.injEq, reduceCtorEq, and_false, exists_false] at hc

theorem inv_store {l : Nat} {q y : Opd} (hc : compileOp P e o = some (.store l q y)) : ∃ t p x, o.op = .store t p x ∧ sizeP P t = some l ∧ e.res p = some q ∧ e.res x = some y := by
  unfold compileOp at hc
  split at hc
  case h_9 t p x ho =>
    split at hc
    · cases hc; exact ⟨t, p, x, ho, by assumption, by assumption, by assumption⟩
    · cases hc
  all_goals (repeat' split at hc) <;> simp only [Option.map_eq_some_iff, Option.some.injEq, reduceCtorEq, and_false, exists_false] at hc

theorem inv_nilCheck {y : Opd} (hc : compileOp P e o = some (.nilCheck y)) : ∃ x, o.op = .nilCheck x ∧ e.res x = some y := by
  unfold compileOp at hc
  split at hc
  case h_10 x ho =>
    simp only [Option.map_eq_some_iff, AOp.nilCheck.injEq] at hc
    obtain ⟨y', h, rfl⟩ := hc; exact ⟨x, ho, h⟩
  all_goals (repeat' split at hc) <;> simp only [Option.map_eq_some_iff, Option.some.injEq, reduceCtorEq, and_false, exists_false] at hc

theorem inv_fieldAddr {off : Nat} {y : Opd} (hc : compileOp P e o = some (.fieldAddr off y)) : ∃ s x f fs fd l, o.op = .fieldAddr s x f ∧ fieldsOf P s = some fs ∧ fs[f]? = some fd ∧ sizeP P fd.type = some l ∧ l ≠ 0 ∧ e.res x = some y ∧ off = fd.offset := by
  unfold compileOp at hc
  split at hc
  case h_17 s x f ho =>
    split at hc
    case h_2 => cases hc
    rename_i fs hfs
    split at hc
    case h_2 => cases hc
    rename_i fd hfd
    split at hc
    case h_2 => cases hc
    rename_i l y' hl hy
    split at hc
    · cases hc
    · rename_i h0
      cases hc
      exact ⟨s, x, f, fs, fd, l, ho, hfs, hfd, hl, h0, hy, rfl⟩
  all_goals (repeat' split at hc) <;> simp only [Option.map_eq_some_iff, Option.some.injEq, reduceCtorEq, and_false, exists_false] at hc

/-- a box of a variable's own: what is in it -/
theorem inv_boxV {s ty sz : Nat} {y : Opd} (hc : compileOp P e o = some (.boxV s ty sz y)) :
    (∃ x, o.op = .box ty x ∧ e.res x = some y) ∨ (∃ z l, o.op = .alloc ty ∧ zeroOf P ty = some z ∧ y = .cst (allocV l z)) := by
  unfold compileOp at hc
  split at hc
  case h_4 t ho =>
    split at hc
    case h_2 => cases hc
    rename_i z m l hz hm hl
    simp only at hc
    split at hc
    · simp only [Option.map_eq_some_iff, AOp.boxV.injEq] at hc
      obtain ⟨s', _, rfl, rfl, rfl, rfl⟩ := hc
      exact .inr ⟨z, l, ho, hz, rfl⟩
    · split at hc <;> cases hc
  case h_5 t x ho =>
    split at hc
    case h_2 => cases hc
    rename_i y' m hy hm
    split at hc
    · simp only [Option.map_eq_some_iff, AOp.boxV.injEq] at hc
      obtain ⟨s', _, rfl, rfl, rfl, rfl⟩ := hc
      exact .inl ⟨x, ho, hy⟩
    · split at hc <;> cases hc
  all_goals (repeat' split at hc) <;> simp only [Option.map_eq_some_iff, Option.some.injEq, reduceCtorEq, and_false, exists_false] at hc

end Go.AI

/- Boxes of variables, and every step that calls nothing. -/
namespace Go.AI
open Go

variable {P : Program} {e : CEnv} {n nb : Nat} {E : Ent} {hp hp' : Array Go.Obj} {G : Gh} {st : St} {locs : Tr V} {a : Act} {o : Oper}

theorem FRel.boxV {c : Cfg} {ops : List Oper} {i s g : Nat} (F : FRel (c.env ops) c.n nb E hp G st locs a) (D : DstOk c ops i o (.var s)) {cs : List C} {vs : Array Value} (hcs : CRs hp G.S G.μ G.K st.heap cs vs.toList) (ty : TypeId)
    (hg : g = match st.vars.get s with | some (.box g _) => g + 1 | _ => 0) :
    FRel (c.env ops) c.n nb E (hp.push (.cells vs ty (0, 0))) { G with β := fun x => if x = s then hp.size else G.β x } (putDst st (.var s) (.box g cs)) (locs.put i (.box g cs)) (a.put o.dst (.pointer (some ⟨hp.size, 0, none⟩))) := by
  obtain ⟨ex, hr'⟩ := pushN F.hr (.cells vs ty (0, 0))
  have F1 := F.step ex hr'
  have hdst : ∃ t, o.dst = some t ∧ (c.env ops).slot t = some s := by
    have := D.eq
    unfold dstOf at this
    split at this
    · cases this
    · rename_i t ht
      split at this
      · rename_i s2 hs2; cases this; exact ⟨t, ht, hs2⟩
      · cases this
  obtain ⟨t, ht, hsl⟩ := hdst
  have hgood : ∀ u x, Good G.β st.vars u x → Good (fun x => if x = s then hp.size else G.β x) (st.vars.put s (.box g cs)) u x := by
    intro u x hu
    cases u with
    | vp s2 g2 q =>
      obtain ⟨g', cs', h1, h2, h3⟩ := hu
      by_cases hs : s2 = s
      · subst hs
        rw [h1] at hg
        simp only at hg
        exact ⟨g, cs, by simp, by omega, fun h => by omega⟩
      · exact ⟨g', cs', by rw [Tr.get_put_ne _ _ hs]; exact h1, h2, fun h => by simpa [hs] using h3 h⟩
    | _ => exact hu
  refine ⟨F1.hr, F1.ext, fun t' x hx => ?_, fun s2 g2 cs2 h2 => ?_, fun s1 g1 cs1 s2 g2 cs2 h1 h2 he => ?_, F1.base, by rw [Act.put_defs]; exact F.defs, by rw [Act.put_size]; exact F.sz⟩
  · by_cases htt : t' = t
    · subst htt
      rw [ht, Act.eval_put_self (Nat.lt_of_lt_of_le (D.lt t' ht) F.sz)]
      simp only [CEnv.res] at hx
      split at hx
      · rename_i j hj
        have hgo : locIn.go c.slots t' ops 0 = some j := hj
        have hc := (locIn_get hgo).2.2
        have hm : t' ∈ c.slots := List.mem_of_getElem? (idxIn_get hsl).2
        simp at hc; exact absurd hm hc
      · rw [hsl] at hx
        cases hx
        have hev : ev (putDst st (.var s) (.box g cs)) (locs.put i (.box g cs)) (.var s) = .vp s g 0 := by simp [ev, putDst, varV]
        rw [hev]
        exact ⟨.vp _ _ _ _, g, cs, by simp [putDst], Nat.le_refl _, fun _ => by simp⟩
    · rw [Act.eval_put_ne (by rw [ht]; intro h; exact htt (Option.some.inj h).symm)]
      have hev : ev (putDst st (.var s) (.box g cs)) (locs.put i (.box g cs)) x = ev st locs x := by
        simp only [CEnv.res] at hx
        split at hx
        · rename_i j hj
          cases hx
          have : j ≠ i := fun he => by
            subst he
            obtain ⟨o', h1, h2⟩ := loc_dst hj
            rw [D.op] at h1; cases h1
            rw [ht] at h2; exact htt (Option.some.inj h2).symm
          simp [ev, Tr.get_put_ne _ _ this]
        · simp only [Option.map_eq_some_iff] at hx
          obtain ⟨s', hs', rfl⟩ := hx
          have : s' ≠ s := fun he => by
            subst he
            exact htt (slot_inj (c := c) (ops := ops) hs' hsl)
          simp [ev, putDst, Tr.get_put_ne _ _ this]
      rw [hev]
      exact ⟨(F1.vals t' x hx).1, hgood _ _ (F.vals t' x hx).2⟩
  · simp only [putDst, Tr.get_put_if] at h2
    by_cases hs : s2 = s
    · subst hs
      rw [if_pos rfl] at h2
      cases h2
      simp only [if_true]
      refine ⟨F.ext.size, fun hS => ?_, fun id o hl he => ?_, vs, ty, by simp, ?_⟩
      · have := F.hr.bnd _ hS; omega
      · have h := F.hr.lt hl
        have h' : G.μ id = hp.size := he
        omega
      · exact hcs.ext F.hr ex
    · rw [if_neg hs] at h2
      simp only [hs, if_false]
      exact F1.box s2 g2 cs2 h2
  · simp only [putDst, Tr.get_put_if] at h1 h2
    have lt : ∀ s' g' cs', st.vars.get s' = some (.box g' cs') → G.β s' < hp.size := fun s' g' cs' h => by
      obtain ⟨_, _, _, vs', ty', h4, _⟩ := F.box s' g' cs' h
      exact (Array.getElem?_eq_some_iff.1 h4).1
    by_cases hs1 : s1 = s <;> by_cases hs2 : s2 = s
    · rw [hs1, hs2]
    · rw [if_neg hs2] at h2
      simp only [hs1, hs2, if_true, if_false] at he
      have := lt _ _ _ h2; omega
    · rw [if_neg hs1] at h1
      simp only [hs1, hs2, if_true, if_false] at he
      have := lt _ _ _ h1; omega
    · rw [if_neg hs1] at h1
      rw [if_neg hs2] at h2
      simp only [hs1, hs2, if_false] at he
      exact F.inj _ _ _ _ _ _ h1 h2 he

theorem FRel.vstore {s g : Nat} {cs cs' : List C} {vs : Array Value} {ty : TypeId} (F : FRel e n nb E hp G st locs a) (hget : st.vars.get s = some (.box g cs)) (hb : hp'[G.β s]? = some (.cells vs ty (0, 0)))
    (ho : ∀ b, b ≠ G.β s → hp'[b]? = hp[b]?) (hsz : hp'.size = hp.size) (hcs : CRs hp G.S G.μ G.K st.heap cs' vs.toList) :
    FRel e n nb E hp' G { st with vars := st.vars.put s (.box g cs') } locs a := by
  obtain ⟨b1, b2, b3, b4⟩ := F.box s g cs hget
  have hrd : ∀ b k v, G.S b → rd hp b k = some v → rd hp' b k = some v := fun b k v hS hv => rd_of_eq (ho b fun he => b2 (he ▸ hS)) hv
  have hsame : ∀ c v, CR hp G.S G.μ G.K st.heap c v → CR hp' G.S G.μ G.K st.heap c v := fun c v h => h.same (fun _ h => h) hrd
  have hgood : ∀ u x, Good G.β st.vars u x → Good G.β (st.vars.put s (.box g cs')) u x := by
    intro u x hu
    cases u with
    | vp s2 g2 q =>
      obtain ⟨g', cs2, h1, h2, h3⟩ := hu
      by_cases hs : s2 = s
      · subst hs
        rw [hget] at h1; cases h1
        exact ⟨g, cs', by simp, h2, h3⟩
      · exact ⟨g', cs2, by rw [Tr.get_put_ne _ _ hs]; exact h1, h2, h3⟩
    | _ => exact hu
  have hbox : ∀ s2 g2 cs2, (st.vars.put s (.box g cs')).get s2 = some (.box g2 cs2) → ∃ cs3, st.vars.get s2 = some (.box g2 cs3) := by
    intro s2 g2 cs2 h
    rw [Tr.get_put_if] at h
    split at h
    · rename_i hs; subst hs; cases h; exact ⟨cs, hget⟩
    · exact ⟨cs2, h⟩
  refine ⟨⟨F.hr.wf, fun id o hl => ?_, F.hr.inj, F.hr.sep, fun b hb => by rw [hsz]; exact F.hr.bnd b hb⟩, ⟨by rw [hsz]; exact F.ext.size, fun b hb hno => ?_, F.ext.sub, F.ext.ids, F.ext.next, F.ext.own, F.ext.back⟩, fun t x hx => ?_, fun s2 g2 cs2 h2 => ?_, fun s1 g1 cs1 s2 g2 cs2 h1 h2 he => ?_, F.base, F.defs, F.sz⟩
  · obtain ⟨cs0, h1, h2, h3, h4, h5⟩ := F.hr.obj id o hl
    refine ⟨cs0, by rw [ho _ (b3 id o hl)]; exact h1, h2, h3, h4, fun i el hi => ⟨(h5 i el hi).1, fun j c hj => ?_⟩⟩
    obtain ⟨v, hv, hc⟩ := (h5 i el hi).2 j c hj
    exact ⟨v, hv, hsame c v hc⟩
  · rw [ho b (by omega)]; exact F.ext.keep b hb hno
  · have hev : ev { st with vars := st.vars.put s (.box g cs') } locs x = ev st locs x := by
      cases x with
      | var s2 =>
        simp only [ev, Tr.get_put_if]
        split
        · rename_i hs; subst hs; rw [hget]; rfl
        · rfl
      | _ => rfl
    rw [hev]
    exact ⟨(F.vals t x hx).1.same (fun _ h => h) hrd, hgood _ _ (F.vals t x hx).2⟩
  · by_cases hs : s2 = s
    · subst hs
      simp only [Tr.get_put, Option.some.injEq, V.box.injEq] at h2
      obtain ⟨_, rfl⟩ := h2
      exact ⟨b1, b2, b3, vs, ty, hb, hcs.1, fun i c v h1 h2 => hsame c v (hcs.2 i c v h1 h2)⟩
    · simp only [Tr.get_put_ne _ _ hs] at h2
      obtain ⟨h1, h3, h4, vs2, ty2, h5, h6⟩ := F.box s2 g2 cs2 h2
      refine ⟨h1, h3, h4, vs2, ty2, ?_, h6.1, fun i c v h1 h2 => hsame c v (h6.2 i c v h1 h2)⟩
      rw [ho _ fun he => hs (F.inj _ _ _ _ _ _ h2 hget he)]; exact h5
  · obtain ⟨_, h1'⟩ := hbox _ _ _ h1
    obtain ⟨_, h2'⟩ := hbox _ _ _ h2
    exact F.inj _ _ _ _ _ _ h1' h2' he

/-- what is done where an operation has been carried out -/
def Did (P : Program) (c : Cfg) (ops : List Oper) (nb : Nat) (E : Ent) (i : Nat) (o : Oper) (st : St) (locs : Tr V) (d : Dst) (v : V) (a : Act) (w : World) : Prop :=
  ∃ val w' G', ((execOp a.eval o).run P w = .ok (.value val) w' ∨ ((execOp a.eval o).run P w = .ok .skip w' ∧ val = undef)) ∧ Same w w' ∧
    FRel (c.env ops) c.n nb E w'.heap G' (putDst st d v) (locs.put i v) (a.put o.dst val)

theorem okDst_var {st : St} {op : AOp} {d : Dst} {v : V} (h : okDst st op d v = true) (hb : ∀ g cs, v ≠ .box g cs) : (∀ s, d = .var s → isBox (st.vars.get s) = false) ∧ (∀ s, d = .var s → ∀ x g q, v ≠ .vp x g q) := by
  refine ⟨fun s hd => ?_, fun s hd x g q hv => ?_⟩
  · subst hd
    cases v <;> simp_all [okDst, dstFree]
  · subst hd; subst hv
    simp [okDst] at h

theorem FRel.did {c : Cfg} {ops : List Oper} {i : Nat} {d : Dst} {v : V} {op : AOp} {w : World} {h' : Heap} (F : FRel (c.env ops) c.n nb E w.heap G st locs a) (D : DstOk c ops i o d) (hs : Sound P w G.S G.μ G.K st.heap (execOp a.eval o) v h')
    (hok : okDst { st with heap := h' } op d v = true) (hb : ∀ g cs, v ≠ .box g cs) (hvp : ∀ x g q, v ≠ .vp x g q) : Did P c ops nb E i o { st with heap := h' } locs d v a w := by
  obtain ⟨val, w', S', μ', K', hrun, hv, ex, hr', hsm⟩ := hs
  have F1 := F.step ex hr'
  refine ⟨val, w', ⟨S', μ', K', G.β⟩, hrun.imp id fun h => ⟨h.1, h.2.2⟩, hsm, F1.put D hv ?_ (okDst_var hok hb).1 (okDst_var hok hb).2⟩
  cases v with
  | box g cs => exact absurd rfl (hb g cs)
  | vp x g q => exact absurd rfl (hvp x g q)
  | tup vs =>
    simp only [okDst, Bool.and_eq_true] at hok
    exact hok.1
  | _ => trivial

end Go.AI

/- Every step that calls nothing, in a frame: the theorem. -/
namespace Go.AI
open Go

variable {P : Program} {nb : Nat} {E : Ent} {G : Gh} {st st' : St} {locs : Tr V} {a : Act} {o : Oper} {c : Cfg} {ops : List Oper} {i : Nat} {d : Dst} {v : V} {op : AOp} {w : World} {fp : FP}

theorem Good.vp_inv {β : Nat → Nat} {vars : Tr V} {s g q : Nat} {cs : List C} {val : Value} (h : Good β vars (.vp s g q) val) (hget : vars.get s = some (.box g cs)) : val = .pointer (some ⟨β s, q, none⟩) := by
  obtain ⟨g', cs', h1, _, h3⟩ := h
  rw [hget] at h1; cases h1
  exact h3 rfl

theorem did_astep (hc : compileOp P (c.env ops) o = some op) (F : FRel (c.env ops) c.n nb E w.heap G st locs a) (D : DstOk c ops i o d) (hbk : ∀ t k, (c.env ops).boxk t = some k → k < nb)
    (hs : (astep st locs op).map (fun (v, h, fp) => (v, ({ st with heap := h } : St), fp)) = some (v, st', fp)) (hok : okDst st' op d v = true) (hnb : ∀ g cs, v ≠ .box g cs) (hvp : ∀ x g q, v ≠ .vp x g q) :
    Did P c ops nb E i o st' locs d v a w := by
  simp only [Option.map_eq_some_iff, Prod.mk.injEq] at hs
  obtain ⟨⟨v1, h1, fp1⟩, hs, rfl, rfl, rfl⟩ := hs
  exact F.did D (astep_sound hc F.erel F.hr (fun t k hk => by have := hbk t k hk; have := F.base; omega) hs) hok hnb hvp

theorem okDst_box {st : St} {op : AOp} {d : Dst} {v : V} (h : okDst st op d v = true) (hop : ∀ s t z x, op ≠ .boxV s t z x) : ∀ g cs, v ≠ .box g cs := by
  intro g cs hv
  subst hv
  cases op <;> simp [okDst] at h
  exact hop _ _ _ _ rfl

theorem okDst_vp {st : St} {op : AOp} {d : Dst} {v : V} (h : okDst st op d v = true) (h1 : ∀ q x, op ≠ .fieldAddr q x) (h2 : ∀ x, op ≠ .nilCheck x) : ∀ x g q, v ≠ .vp x g q := by
  intro x g q hv
  subst hv
  cases op <;> simp [okDst] at h
  · exact h2 _ rfl
  · exact h1 _ _ rfl

theorem vp_did (F : FRel (c.env ops) c.n nb E w.heap G st locs a) (D : DstOk c ops i o d) {s g q : Nat} {val : Value} (hrun : (execOp a.eval o).run P w = .ok (.value val) w) (hg : Good G.β st.vars (.vp s g q) val) (hok : okDst st op d (.vp s g q) = true) :
    Did P c ops nb E i o st locs d (.vp s g q) a w := by
  have h1 := okDst_var hok (fun g cs => by simp)
  exact ⟨val, w, G, .inl hrun, Same.refl w, F.put D (.vp _ _ _ _) hg h1.1 h1.2⟩

theorem one_did (F : FRel (c.env ops) c.n nb E w.heap G st locs a) (D : DstOk c ops i o d) {val : Value} (hrun : (execOp a.eval o).run P w = .ok (.value val) w) (hv : VR w.heap G.S G.μ G.K st.heap v val) (hok : okDst st op d v = true) (hnb : ∀ g cs, v ≠ .box g cs) (hvp : ∀ x g q, v ≠ .vp x g q) :
    Did P c ops nb E i o st locs d v a w := F.did D (Sound.pure F.hr hrun hv) hok hnb hvp

theorem cellsAt_ne {el : List C} {q : Nat} {l : Option Nat} (h : cellsAt el q l = some v) : (∀ g cs, v ≠ .box g cs) ∧ (∀ x g q, v ≠ .vp x g q) := by
  cases l with
  | none =>
    simp only [cellsAt, Option.map_eq_some_iff] at h
    obtain ⟨_, _, rfl⟩ := h; simp
  | some n =>
    simp only [cellsAt] at h
    split at h
    · cases h; simp
    · cases h

theorem FRel.res {e : CEnv} {n : Nat} (F : FRel e n nb E w.heap G st locs a) {x : Operand} {y : Opd} (hx : e.res x = some y) {s g q : Nat} (hy : ev st locs y = .vp s g q) : Good G.β st.vars (.vp s g q) (a.eval x) := by
  cases x with
  | tmp t => have := (F.vals t y hx).2; rw [hy] at this; exact this
  | const v =>
    simp only [CEnv.res, Option.map_eq_some_iff] at hx
    obtain ⟨u, hu, rfl⟩ := hx
    simp only [ev] at hy
    subst hy
    unfold V.ofValue at hu
    split at hu <;> simp at hu
  | func f => simp only [CEnv.res, Option.some.injEq] at hx; subst hx; simp [ev] at hy
  | global g => simp [CEnv.res] at hx

theorem now_box {s g : Nat} (h : st.now s g = true) : ∃ cs, st.vars.get s = some (.box g cs) := by
  unfold St.now at h
  split at h
  · rename_i g' cs hg; simp at h; subst h; exact ⟨cs, hg⟩
  · cases h

theorem vstep_did (hc : compileOp P (c.env ops) o = some op) (F : FRel (c.env ops) c.n nb E w.heap G st locs a) (D : DstOk c ops i o d) (hbk : ∀ t k, (c.env ops).boxk t = some k → k < nb)
    (hs : vstep st locs op = some (v, st', fp)) (hok : okDst st' op d v = true) : Did P c ops nb E i o st' locs d v a w := by
  unfold vstep at hs
  split at hs
  · -- a box of a variable's own
    rename_i s ty sz x
    split at hs
    case h_2 => cases hs
    rename_i cs hcs
    split at hs
    case isFalse => cases hs
    simp only [Option.some.injEq, Prod.mk.injEq] at hs
    obtain ⟨rfl, rfl, rfl⟩ := hs
    have hd : d = .var s := by
      cases d <;> simp [okDst] at hok
      rw [hok]
    subst hd
    rcases inv_boxV hc with ⟨x', ho, hx⟩ | ⟨z, l, ho, hz, rfl⟩
    · have hrel := ((F.erel.res hx).cells hcs).1
      refine ⟨_, w.alloc (.cells (a.eval x').cells ty), _, .inl ?_, ⟨rfl, rfl, rfl⟩, F.boxV D hrel ty rfl⟩
      simp [execOp, ho, run_box]
    · obtain ⟨i', zv, hi, hzv, val, hval, hcells⟩ := alloc_val (S := G.S) (μ := G.μ) (K := G.K) (l := l) (hp := w.heap) (h := st.heap) hz
      have hrel := (hval.cells hcs).1
      refine ⟨_, w.alloc (.cells val.cells ty), _, .inl ?_, ⟨rfl, rfl, rfl⟩, F.boxV D hrel ty rfl⟩
      rw [hcells]; simp [execOp, ho, run_alloc hi hzv]
  · -- fieldAddr
    rename_i off x
    split at hs
    · rename_i s g q hy
      split at hs
      case isFalse => cases hs
      rename_i hnow
      cases hs
      obtain ⟨cs', h1⟩ := now_box hnow
      obtain ⟨sT, x', f, fs, fd, l, ho, hfs, hfd, hl, h0, hx, rfl⟩ := inv_fieldAddr hc
      have hg := F.res hx hy
      have hu := fieldsOf_some hfs
      obtain ⟨ti, hi, hin⟩ := sizeP_some hl
      have hax := hg.vp_inv h1
      refine vp_did F D (val := .pointer (some ⟨G.β s, q + fd.offset, none⟩)) ?_ ⟨g, cs', h1, Nat.le_refl _, fun _ => rfl⟩ hok
      have hfp : ∀ a : Addr, (fieldPlace a fd).run P w = .ok (a.add fd.offset) w := fun a => by
        simp [fieldPlace, run_sizeOf hi, hin, h0]
      simp [execOp, ho, hax, Instr.fieldAt, run_underlying hu, hfd, Instr.sureAddr, hfp, addr_add]
    · rename_i hy
      refine did_astep hc F D hbk hs hok ?_ ?_
      · intro g cs hv; exact okDst_box hok (by simp) g cs hv
      · simp only [Option.map_eq_some_iff, Prod.mk.injEq] at hs
        obtain ⟨⟨v1, h1, fp1⟩, hs, rfl, rfl, rfl⟩ := hs
        simp only [astep] at hs
        split at hs
        · simp only [Option.map_eq_some_iff, Prod.mk.injEq] at hs
          obtain ⟨_, _, rfl, _⟩ := hs; simp
        · cases hs
  · -- load
    rename_i l x
    split at hs
    · rename_i s g q hy
      split at hs
      case h_2 => cases hs
      rename_i g' cs hget
      split at hs
      case isFalse => cases hs
      rename_i hgg
      subst hgg
      simp only [Option.map_eq_some_iff, Prod.mk.injEq] at hs
      obtain ⟨u, hu, rfl, rfl, rfl⟩ := hs
      obtain ⟨t, x', ho, hl, hx⟩ := inv_load hc
      have hax := (F.res hx hy).vp_inv hget
      obtain ⟨_, _, _, vs, ty, hb, hcs⟩ := F.box s g' cs hget
      obtain ⟨val, h1, h2⟩ := load_rel (P := P) (w := w) (b := G.β s) (o := 0) hl hu (fun j c hj => by
        obtain ⟨v, hv, hr⟩ := hcs.get hj
        exact ⟨v, by simp only [rd, hb, Nat.zero_add]; simpa using hv, hr⟩)
      refine one_did F D ?_ h2 hok (cellsAt_ne hu).1 (cellsAt_ne hu).2
      simp only [Nat.zero_add] at h1
      simp [execOp, ho, hax, Instr.loadAt, Instr.sureAddr, h1]
    · exact did_astep hc F D hbk hs hok (okDst_box hok (by simp)) (okDst_vp hok (by simp) (by simp))
  · -- store
    rename_i l p x
    split at hs
    · rename_i s g q hy
      split at hs
      case h_2 => cases hs
      rename_i g' cs ds hget hds
      split at hs
      case isFalse => cases hs
      rename_i hcond
      obtain ⟨hgg, hlen, hfit⟩ := hcond
      subst hgg
      simp only [Option.some.injEq, Prod.mk.injEq] at hs
      obtain ⟨rfl, rfl, rfl⟩ := hs
      obtain ⟨t, p', x', ho, hl, hp', hx⟩ := inv_store hc
      have hax := (F.res hp' hy).vp_inv hget
      obtain ⟨_, _, _, vs, ty, hb, hcs⟩ := F.box s g' cs hget
      obtain ⟨hrel, hone⟩ := (F.erel.res hx).cells hds
      have hvl : (a.eval x').cells.toList.length = l := by rw [← hlen]; exact hrel.1.symm
      have hfit2 : q + (a.eval x').cells.toList.length ≤ vs.size := by
        have := hcs.1; simp at this; omega
      have hst := run_storeCells_at P (G.β s) q ty (a.eval x').cells.toList 0 vs w hb (by simpa using hfit2) hone
      simp only [Nat.add_zero] at hst
      have hw := CRs.write (off := q) hcs hrel (by omega)
      obtain ⟨i', hi, hin⟩ := sizeP_some hl
      have hxs : (a.eval x').cells.size = l := by simpa using hvl
      have F1 := F.vstore (hp' := (w.setRow (G.β s) (vs.toList.take q ++ (a.eval x').cells.toList ++ vs.toList.drop (q + (a.eval x').cells.toList.length)).toArray).heap) hget (setRow_heap w (G.β s) vs _ ty (0, 0) hb) (fun b hb' => setRow_get w _ b _ hb') (by simp) hw
      have h1 := okDst_var hok (fun g cs => by simp)
      refine ⟨undef, w.setRow (G.β s) (vs.toList.take q ++ (a.eval x').cells.toList ++ vs.toList.drop (q + (a.eval x').cells.toList.length)).toArray, G, .inr ⟨?_, rfl⟩, ⟨rfl, rfl, rfl⟩, F1.put D (.undef _) trivial h1.1 h1.2⟩
      simp [execOp, ho, hax, Instr.storeAt, Instr.sureAddr, storeVar, sizeOf, typeInfo, hi, hin, hxs, hst]
    · exact did_astep hc F D hbk hs hok (okDst_box hok (by simp)) (okDst_vp hok (by simp) (by simp))
  · -- nilCheck
    rename_i x
    split at hs
    · rename_i s g q hy
      split at hs
      case isFalse => cases hs
      rename_i hnow
      cases hs
      obtain ⟨cs', h1⟩ := now_box hnow
      obtain ⟨x', ho, hx⟩ := inv_nilCheck hc
      have hax := (F.res hx hy).vp_inv h1
      refine vp_did F D (val := .pointer (some ⟨G.β s, q, none⟩)) ?_ ⟨g, cs', h1, Nat.le_refl _, fun _ => rfl⟩ hok
      simp [execOp, ho, hax]
    · rename_i hy
      refine did_astep hc F D hbk hs hok ?_ ?_
      · intro g cs hv; exact okDst_box hok (by simp) g cs hv
      · simp only [Option.map_eq_some_iff, Prod.mk.injEq] at hs
        obtain ⟨⟨v1, h1, fp1⟩, hs, rfl, rfl, rfl⟩ := hs
        simp only [astep] at hs
        split at hs
        all_goals first
          | cases hs; simp
          | cases hs
  · rename_i h1 h2 h3 h4 h5
    exact did_astep hc F D hbk hs hok (okDst_box hok fun s t z x he => h1 s t z x he) (okDst_vp hok (fun q x he => h2 q x he) (fun x he => h5 x he))

end Go.AI

/- Calls, and whole statements, in a frame. -/
namespace Go.AI
open Go

variable {P : Program} {nb : Nat} {E : Ent} {G : Gh} {st st' : St} {locs : Tr V} {fps : Tr FP} {a : Act} {o : Oper} {c : Cfg} {ops : List Oper} {i : Nat} {d : Dst} {v : V} {op : AOp} {w : World} {fp : FP}

/-- what holds of the frame behind a statement -/
def NX (c : Cfg) (ops : List Oper) (nb : Nat) (E : Ent) (K : St → Tr V → Tr FP → Prop) (a : Act) (w : World) : Prop :=
  ∃ G st locs fps, FRel (c.env ops) c.n nb E w.heap G st locs a ∧ Same E.wd w ∧ K st locs fps

theorem Did.wp {K : St → Tr V → Tr FP → Prop} {Q : Exit → Act → World → Prop} (hsm0 : Same E.wd w) (h : Did P c ops nb E i o st locs d v a w) (hk : K (putDst st d v) (locs.put i v) fps) : o.wp P a w (NX c ops nb E K) Q := by
  obtain ⟨val, w', G', hrun, hsm, F⟩ := h
  unfold Oper.wp
  rcases hrun with h | ⟨h, rfl⟩
  · rw [h]; exact ⟨G', _, _, fps, F, hsm0.trans hsm, hk⟩
  · rw [h]; exact ⟨G', _, _, fps, F, hsm0.trans hsm, hk⟩

/-- the arguments as the machine has them -/
theorem args_rel (F : FRel (c.env ops) c.n nb E w.heap G st locs a) : ∀ {l : List Operand} {ys : List Opd}, (c.env ops).resL l = some ys → VRs w.heap G.S G.μ G.K st.heap (ys.map (ev st locs)) (l.map a.eval) := by
  intro l ys hl
  obtain ⟨h1, h2⟩ := resL_get hl
  refine ⟨by simp [h1], fun j v x hv hx => ?_⟩
  simp only [List.getElem?_map, Option.map_eq_some_iff] at hv hx
  obtain ⟨y, hy, rfl⟩ := hv
  obtain ⟨z, hz, rfl⟩ := hx
  exact F.erel.res (h2 j z y hz hy)

theorem okDst_call {op : AOp} (hop : (∃ f l b, op = .call f l b) ∨ ∃ x l, op = .callV x l) (h : okDst st op d v = true) : (∀ g cs, v ≠ .box g cs) ∧ (∀ x g q, v ≠ .vp x g q) := by
  refine ⟨okDst_box h ?_, okDst_vp h ?_ ?_⟩ <;> rcases hop with ⟨f, l, b, rfl⟩ | ⟨x, l, rfl⟩ <;> simp

theorem good_of {β : Nat → Nat} {vars : Tr V} {st : St} {op : AOp} {val : Value} (h : okDst st op d v = true) (h1 : ∀ g cs, v ≠ .box g cs) (h2 : ∀ x g q, v ≠ .vp x g q) : Good β vars v val := by
  cases v with
  | box g cs => exact absurd rfl (h1 g cs)
  | vp x g q => exact absurd rfl (h2 x g q)
  | tup vs => simp only [okDst, Bool.and_eq_true] at h; exact h.1
  | _ => trivial

/-- a call over the frame's heap -/
theorem callH_wp {f : FuncId} {args : List V} {cargs : Array Value} {s : AStmt} {K : St → Tr V → Tr FP → Prop} {Q : Exit → Act → World → Prop} (hsm0 : Same E.wd w) (F : FRel (c.env ops) c.n nb E w.heap G st locs a) (D : DstOk c ops i o s.dst)
    (hop : (∃ f l b, s.op = .call f l b) ∨ ∃ x l, s.op = .callV x l) (hrun : (execOp a.eval o).run P w = (callFunc f cargs).run P w) (ha : VRs w.heap G.S G.μ G.K st.heap args cargs.toList)
    (h : callH P f args s i st locs fps K) : o.wp P a w (NX c ops nb E K) Q := by
  obtain ⟨_, relax, _, hv⟩ := h
  have fin : ∀ (val : Value) (w' : World), (∃ val' r H' S' μ' K', Ending.returned val = .returned val' ∧ ((relax = true → KeepAll st.heap H') ∧ behindK s i { st with heap := H' } locs fps r { FP.no with all := true } K) ∧ VR w'.heap S' μ' K' H' r val' ∧ Ext w.heap G.S G.μ G.K st.heap w'.heap S' μ' K' H' ∧ HeapRel w'.heap S' μ' K' H' ∧ Same w w') →
      NX c ops nb E K (a.put o.dst val) w' := by
    rintro val w' ⟨val', r, H', S', μ', K', he, ⟨_, hok, hk⟩, hr, ex, hrel, hsm⟩
    cases he
    have F1 := F.step ex hrel
    obtain ⟨h1, h2⟩ := okDst_call hop hok
    exact ⟨_, _, _, _, F1.put D hr (good_of hok h1 h2) (okDst_var hok h1).1 (okDst_var hok h1).2, hsm0.trans hsm, hk⟩
  unfold Oper.wp
  rw [hrun]
  rcases hv.2 w G.S G.μ G.K cargs F.hr ha with ⟨h1, h2⟩ | ⟨val, w', h1, h2⟩
  · rw [h1]
    refine h2.mono fun e w' he => ?_
    cases e with
    | returned val => exact fin val w' he
    | panicked ch => obtain ⟨_, _, _, _, _, _, h, _⟩ := he; cases h
    | outgrown => obtain ⟨_, _, _, _, _, _, h, _⟩ := he; cases h
  · rw [h1]; exact fin val w' h2

/-- a call that only reads what it gets -/
theorem callP_wp {f : FuncId} {args ds : List V} {ids : List Nat} {cargs : Array Value} {s : AStmt} {K : St → Tr V → Tr FP → Prop} {Q : Exit → Act → World → Prop} (hsm0 : Same E.wd w) (F : FRel (c.env ops) c.n nb E w.heap G st locs a) (D : DstOk c ops i o s.dst)
    (hop : (∃ f l b, s.op = .call f l b) ∨ ∃ x l, s.op = .callV x l) (hrun : (execOp a.eval o).run P w = (callFunc f cargs).run P w) (ha : VRs w.heap G.S G.μ G.K st.heap args cargs.toList)
    (hf : frzAll st.heap args = some (ds, ids)) (h : callP P f ds ids s i st locs fps K) : o.wp P a w (NX c ops nb E K) Q := by
  obtain ⟨r, hpv, hok, _, hk⟩ := h
  obtain ⟨S1, hS1, ex1, hr1⟩ := killAll ids F.hr
  have hd := frzAll_sound (μ' := mu0) (K' := mu0) (h' := Heap.empty) F.hr (fun b hb => (hS1 b).2 (.inl hb)) ha hf (fun id hid o ho => (hS1 _).2 (.inr ⟨id, o, hid, ho, rfl⟩))
  have fin : ∀ (val : Value) (w' : World), (∃ val' S', Ending.returned val = .returned val' ∧ VR w'.heap S' mu0 mu0 Heap.empty r val' ∧ w.heap.size ≤ w'.heap.size ∧ (∀ b, b < w.heap.size → w'.heap[b]? = w.heap[b]?) ∧
      (∀ b, S1 b → S' b) ∧ (∀ b, S' b → S1 b ∨ w.heap.size ≤ b) ∧ (∀ b, S' b → b < w'.heap.size) ∧ Same w w') → NX c ops nb E K (a.put o.dst val) w' := by
    rintro val w' ⟨val', S', he, hv, hsz, hkeep, hs1, hs2, hs3, hsm⟩
    cases he
    obtain ⟨h1, h2⟩ := okDst_call hop hok
    cases hh : r.holds with
    | false =>
      obtain ⟨ex, hrel⟩ := grow (S' := G.S) F.hr hsz hkeep (fun b h => h) (fun b h => .inl h) (fun b h => Nat.lt_of_lt_of_le (F.hr.bnd b h) hsz)
      have F1 := F.step ex hrel
      have hst : killR r ids st = { st with heap := st.heap } := by simp [killR, hh]
      rw [hst] at hok hk
      exact ⟨_, _, _, _, F1.put D (V.free_rel hh hv) (good_of hok h1 h2) (okDst_var hok h1).1 (okDst_var hok h1).2, hsm0.trans hsm, hk⟩
    | true =>
      obtain ⟨ex, hrel⟩ := grow (S' := S') hr1 hsz hkeep hs1 hs2 hs3
      have F1 := F.step (ex1.trans ex) hrel
      have hst : killR r ids st = { st with heap := st.heap.killAll ids } := by simp [killR, hh]
      rw [hst] at hok hk
      exact ⟨_, _, _, _, F1.put D (hv.of_empty Heap.empty_get) (good_of hok h1 h2) (okDst_var hok h1).1 (okDst_var hok h1).2, hsm0.trans hsm, hk⟩
  unfold Oper.wp
  rw [hrun]
  rcases hpv w S1 cargs hr1.bnd hd with ⟨h1, h2⟩ | ⟨val, w', h1, h2⟩
  · rw [h1]
    refine h2.mono fun e w' he => ?_
    cases e with
    | returned val => exact fin val w' he
    | panicked ch => obtain ⟨_, _, h, _⟩ := he; cases h
    | outgrown => obtain ⟨_, _, h, _⟩ := he; cases h
  · rw [h1]; exact fin val w' h2

theorem inv_call {f : FuncId} {l : List Opd} {b : Bool} (hc : compileOp P (c.env ops) o = some (.call f l b)) : ∃ args tys, o.op = .call { callee := .value (.func f), args, argTypes := tys } ∧ (c.env ops).resL args.toList = some l := by
  unfold compileOp at hc
  split at hc
  case h_30 g args tys ho =>
    simp only [Option.map_eq_some_iff, AOp.call.injEq] at hc
    obtain ⟨l', hl, rfl, rfl, rfl⟩ := hc
    exact ⟨args, tys, ho, hl⟩
  all_goals (repeat' split at hc) <;> simp only [Option.map_eq_some_iff, Option.some.injEq, reduceCtorEq, and_false, exists_false] at hc

theorem inv_callV {x : Opd} {l : List Opd} (hc : compileOp P (c.env ops) o = some (.callV x l)) : ∃ y args tys, o.op = .call { callee := .value y, args, argTypes := tys } ∧ (c.env ops).res y = some x ∧ (c.env ops).resL args.toList = some l := by
  unfold compileOp at hc
  split at hc
  case h_31 y args tys _ ho =>
    split at hc
    · cases hc; exact ⟨y, args, tys, ho, by assumption, by assumption⟩
    · cases hc
  all_goals (repeat' split at hc) <;> simp only [Option.map_eq_some_iff, Option.some.injEq, reduceCtorEq, and_false, exists_false] at hc

theorem run_callf {f : FuncId} {args : Array Operand} {tys : Array TypeId} (ho : o.op = .call { callee := .value (.func f), args, argTypes := tys }) : (execOp a.eval o).run P w = (callFunc f (args.map a.eval)).run P w := by
  simp [execOp, ho, resolve, Deferred.ofValue, invoke, Act.eval]

theorem run_callv {f : FuncId} {y : Operand} {caps : Array Value} {args : Array Operand} {tys : Array TypeId} (ho : o.op = .call { callee := .value y, args, argTypes := tys }) (hy : a.eval y = .func (.func f) #[] caps) :
    (execOp a.eval o).run P w = (callFunc f (args.map a.eval ++ caps)).run P w := by
  simp [execOp, ho, resolve, Deferred.ofValue, invoke, hy]

end Go.AI

/- Statements, regions in their own order, code. -/
namespace Go.AI
open Go

variable {P : Program} {nb : Nat} {E : Ent} {G : Gh} {st st' : St} {locs : Tr V} {fps : Tr FP} {a : Act} {o : Oper} {c : Cfg} {ops : List Oper} {i : Nat} {d : Dst} {v : V} {op : AOp} {w : World} {fp : FP} {un : Nat → List Nat} {s : AStmt}

structure StmtOk (P : Program) (c : Cfg) (ops : List Oper) (i : Nat) (o : Oper) (s : AStmt) : Prop where
  op : compileOp P (c.env ops) o = some s.op
  dst : DstOk c ops i o s.dst
  guard : (o.guard = none ∧ s.guard = none) ∨ ∃ j b t x, o.guard = some (j, b) ∧ (ops[j]?).bind (·.dst) = some t ∧ (c.env ops).res (.tmp t) = some x ∧ s.guard = some (x, b)

theorem compileStmt_ok (hi : ops[i]? = some o) (hc : compileStmt P c ops un i o = some s) : StmtOk P c ops i o s ∧ s.un = un i := by
  unfold compileStmt at hc
  split at hc
  · cases hc
  rename_i op hop
  simp only at hc
  split at hc
  case isFalse => cases hc
  rename_i hcond
  simp only [Bool.and_eq_true] at hcond
  have D : DstOk c ops i o (dstOf c o) := by
    refine ⟨hi, rfl, fun t ht hd => ?_, fun t ht => ?_⟩
    · have h := hcond.1
      rw [hd] at h
      simpa [dstLocOk, ht] using h
    · have h := hcond.2
      simpa [dstLt, ht] using h
  split at hc
  · rename_i hg
    cases hc
    exact ⟨⟨hop, D, .inl ⟨hg, rfl⟩⟩, rfl⟩
  · rename_i j b hg
    split at hc
    · rename_i t ht
      simp only [Option.map_eq_some_iff] at hc
      obtain ⟨x, hx, rfl⟩ := hc
      exact ⟨⟨hop, D, .inr ⟨j, b, t, x, hg, ht, hx, rfl⟩⟩, rfl⟩
    · cases hc

theorem guard_wanted {bb : Bool} (F : FRel (c.env ops) c.n nb E w.heap G st locs a) (S : StmtOk P c ops i o s) (hg : guardOk st locs s.guard = some bb) : Region.wanted o (yielded ops.toArray a.tmps) = bb := by
  rcases S.guard with ⟨h1, h2⟩ | ⟨j, b, t, x, h1, h2, h3, h4⟩
  · rw [h2] at hg
    simp only [guardOk, Option.some.injEq] at hg
    subst hg
    simp [Region.wanted, h1]
  · rw [h4] at hg
    have hv := (F.vals t x h3).1
    have hy : yielded ops.toArray a.tmps j = match a.tmps[t]? with | some (.bool b) => some b | _ => none := by
      unfold yielded
      simp only [List.getElem?_toArray, h2, Option.bind_some]
      cases a.tmps[t]? with
      | none => rfl
      | some u => cases u <;> rfl
    simp only [Region.wanted, h1, hy]
    have he : a.eval (.tmp t) = (a.tmps[t]?).getD undef := by simp [Act.eval, Array.getD_eq_getD_getElem?]
    rw [he] at hv
    simp only [guardOk] at hg
    split at hg
    · rename_i b' hb'
      rw [hb'] at hv
      cases hg
      have hval := (hv.bool (b := b') rfl).2
      cases ht : a.tmps[t]? with
      | none => rw [ht] at hval; simp [undef] at hval
      | some u =>
        rw [ht] at hval
        simp only [Option.getD_some] at hval
        subst hval
        cases b' <;> cases b <;> rfl
    · rename_i hb'
      rw [hb'] at hv
      cases hg
      cases ht : a.tmps[t]? with
      | none => simp
      | some u =>
        rw [ht] at hv
        simp only [Option.getD_some] at hv
        cases hv with
        | tup hl _ _ _ => simp
    · cases hg

theorem astmt_wp {K : St → Tr V → Tr FP → Prop} {Q : Exit → Act → World → Prop} (S : StmtOk P c ops i o s) (hsm0 : Same E.wd w) (F : FRel (c.env ops) c.n nb E w.heap G st locs a) (hbk : ∀ t k, (c.env ops).boxk t = some k → k < nb)
    (h : astmt P s i st locs fps K) : wpOp P ops.toArray Q i (NX c ops nb E K) a w := by
  unfold wpOp
  simp only [List.getElem?_toArray, S.dst.op]
  unfold astmt at h
  split at h
  · exact h.elim
  · rename_i hg
    rw [guard_wanted F S hg]
    obtain ⟨hok, _, hk⟩ := h
    have h1 := okDst_var hok (fun g cs => by simp)
    exact ⟨_, _, _, _, F.put S.dst (v := .tup []) (val := undef) (VR.tup rfl (fun _ => undef) (by simp) (by simp)) rfl h1.1 h1.2, hsm0, hk⟩
  · rename_i hg
    rw [guard_wanted F S hg]
    simp only [if_true]
    left
    split at h
    · rename_i f args heap hop
      have hc := S.op
      rw [hop] at hc
      obtain ⟨cargs, tys, ho, hl⟩ := inv_call hc
      have ha : VRs w.heap G.S G.μ G.K st.heap (args.map (ev st locs)) (cargs.map a.eval).toList := by rw [Array.toList_map]; exact args_rel F hl
      split at h
      · exact callH_wp hsm0 F S.dst (.inl ⟨f, args, heap, hop⟩) (run_callf ho) ha h
      · split at h
        · rename_i ds ids hf
          exact callP_wp hsm0 F S.dst (.inl ⟨f, args, heap, hop⟩) (run_callf ho) ha hf h
        · exact h.elim
    · rename_i x args hop
      have hc := S.op
      rw [hop] at hc
      obtain ⟨y, cargs, tys, ho, hy, hl⟩ := inv_callV hc
      split at h
      case h_2 => exact h.elim
      rename_i f caps hev
      have hv := F.erel.res hy
      rw [hev] at hv
      have hfn : ∃ vs : Array Value, a.eval y = .func (.func f) #[] vs ∧ CRs w.heap G.S G.μ G.K st.heap caps vs.toList := by
        generalize a.eval y = ay at hv
        cases hv with
        | one hc =>
          cases hc with
          | deep hd => cases hd
          | fn f caps vs hl vals hv hd =>
            refine ⟨vs, rfl, by simpa using hl, fun i c v h1 h2 => ?_⟩
            have := hv i c h1
            simp only [Array.getElem?_toList] at h2
            rw [this] at h2; cases h2
            exact hd i c h1
      obtain ⟨vs, hay, hcaps⟩ := hfn
      refine callH_wp hsm0 F S.dst (.inr ⟨x, args, hop⟩) (run_callv ho hay) ?_ h
      have ha := args_rel F hl
      simp only [Array.toList_append, Array.toList_map]
      have hlen : (args.map (ev st locs)).length = (cargs.toList.map a.eval).length := ha.1
      refine ⟨by simp only [List.length_append, List.length_map] at hlen ⊢; have := hcaps.1; omega, fun j u x h1 h2 => ?_⟩
      by_cases hj : j < (args.map (ev st locs)).length
      · rw [List.getElem?_append_left hj] at h1
        rw [List.getElem?_append_left (by omega)] at h2
        exact ha.2 j u x h1 h2
      · rw [List.getElem?_append_right (by omega)] at h1
        rw [List.getElem?_append_right (by omega)] at h2
        simp only [List.getElem?_map, Option.map_eq_some_iff] at h1
        obtain ⟨c', hc', rfl⟩ := h1
        rw [hlen] at hc'
        exact .one (hcaps.2 _ c' x hc' h2)
    · split at h
      · rename_i v st' fp hs
        obtain ⟨hok, _, hk⟩ := h
        exact (vstep_did S.op F S.dst hbk hs hok).wp hsm0 hk
      · exact h.elim

/-! ### regions in their own order -/
theorem compileOps_get : ∀ {l : List Oper} {k : Nat} {ss : List AStmt}, (∀ j, l[j]? = ops[k + j]?) → compileOps P c ops un k l = some ss → ss.length = l.length ∧ ∀ (j : Nat) (s : AStmt), ss[j]? = some s → ∃ o, ops[k + j]? = some o ∧ StmtOk P c ops (k + j) o s ∧ s.un = un (k + j)
  | [], k, ss, hl, h => by
    simp only [compileOps, Option.some.injEq] at h
    subst h; simp
  | o :: r, k, ss, hl, h => by
    unfold compileOps at h
    split at h
    case h_2 => cases h
    rename_i s l hs hr
    cases h
    have h0 : ops[k]? = some o := by simpa using (hl 0).symm
    obtain ⟨h1, h2⟩ := compileOps_get (k := k + 1) (l := r) (fun j => by have := hl (j + 1); simpa [Nat.add_assoc, Nat.add_comm 1 j] using this) hr
    refine ⟨by simp [h1], fun j s' hs' => ?_⟩
    cases j with
    | zero =>
      simp at hs'; subst hs'
      exact ⟨o, by simpa using h0, compileStmt_ok h0 hs⟩
    | succ j =>
      simp only [List.getElem?_cons_succ] at hs'
      have := h2 j s' hs'
      simpa [Nat.add_assoc, Nat.add_comm 1 j] using this

/-- the frame between statements of code -/
def CX (c : Cfg) (nb : Nat) (E : Ent) (K : St → Prop) (a : Act) (w : World) : Prop := ∃ G st, FRel (c.env []) c.n nb E w.heap G st .lf a ∧ Same E.wd w ∧ K st

theorem res_nil {c : Cfg} {ops : List Oper} {t : Tmp} {x : Opd} (h : (c.env []).res (.tmp t) = some x) : ∃ s, x = .var s ∧ (c.env ops).res (.tmp t) = some (.var s) := by
  have h0 : (c.env []).loc t = none := rfl
  simp only [CEnv.res, h0, Option.map_eq_some_iff] at h
  obtain ⟨s, hs, rfl⟩ := h
  refine ⟨s, rfl, ?_⟩
  have hsl : (c.env ops).slot t = some s := hs
  cases hl : (c.env ops).loc t with
  | none => simp [CEnv.res, hl, hsl]
  | some j =>
    have hgo : locIn.go c.slots t ops 0 = some j := hl
    have hc := (locIn_get hgo).2.2
    have hm : t ∈ c.slots := List.mem_of_getElem? (idxIn_get hsl).2
    simp at hc; exact absurd hm hc

theorem res_ops {c : Cfg} {ops : List Oper} {t : Tmp} {x : Opd} (h : (c.env ops).res (.tmp t) = some x) : (∃ i, x = .loc i) ∨ (∃ s, x = .var s ∧ (c.env []).res (.tmp t) = some (.var s)) := by
  simp only [CEnv.res] at h
  split at h
  · rename_i i hi; cases h; exact .inl ⟨i, rfl⟩
  · simp only [Option.map_eq_some_iff] at h
    obtain ⟨s, hs, rfl⟩ := h
    have hs2 : (c.env []).slot t = some s := hs
    have h0 : (c.env []).loc t = none := rfl
    exact .inr ⟨s, rfl, by simp [CEnv.res, h0, hs2]⟩

theorem FRel.enterR (F : FRel (c.env []) c.n nb E w.heap G st .lf a) : FRel (c.env ops) c.n nb E w.heap G st .lf a :=
  ⟨F.hr, F.ext, fun t x hx => by
    rcases res_ops hx with ⟨i, rfl⟩ | ⟨s, rfl, h⟩
    · have : ev st .lf (.loc i) = .undef := rfl
      rw [this]
      exact ⟨.undef _, trivial⟩
    · exact F.vals t _ h, F.box, F.inj, F.base, F.defs, F.sz⟩

theorem FRel.leaveR (F : FRel (c.env ops) c.n nb E w.heap G st locs a) : FRel (c.env []) c.n nb E w.heap G st .lf a :=
  ⟨F.hr, F.ext, fun t x hx => by
    obtain ⟨s, rfl, h⟩ := res_nil (ops := ops) hx
    exact F.vals t _ h, F.box, F.inj, F.base, F.defs, F.sz⟩

theorem arunOps_wp {Q : Exit → Act → World → Prop} {ss : List AStmt} (hbk : ∀ t k, (c.env ops).boxk t = some k → k < nb) (hss : ∀ (j : Nat) (s : AStmt), ss[j]? = some s → ∃ o, ops[j]? = some o ∧ StmtOk P c ops j o s) (hlen : ss.length = ops.length) {K : St → Prop} :
    ∀ (m k : Nat), k + m = ops.length → ∀ (st : St) (locs : Tr V) (fps : Tr FP) (a : Act) (w : World) (G : Gh), Same E.wd w → FRel (c.env ops) c.n nb E w.heap G st locs a → arunOps P (ss.drop k) k st locs fps K →
      (∀ a w, CX c nb E K a w → Q .normal a w) → wpOps P ops.toArray Q (List.range' k m) a w := by
  intro m
  induction m with
  | zero =>
    intro k hk st locs fps a w G hsm0 F h hQ
    have : ss.drop k = [] := List.drop_eq_nil_of_le (by omega)
    rw [this] at h
    simp only [List.range'_zero, wpOps]
    exact hQ _ _ ⟨G, st, F.leaveR, hsm0, h⟩
  | succ m ih =>
    intro k hk st locs fps a w G hsm0 F h hQ
    have hlt : k < ss.length := by omega
    rw [List.drop_eq_getElem_cons hlt] at h
    simp only [arunOps] at h
    rw [List.range'_succ, wpOps_cons]
    obtain ⟨o, ho, S⟩ := hss k ss[k] (List.getElem?_eq_getElem hlt)
    refine wpOp_mono (fun a' w' hn => ?_) (astmt_wp S hsm0 F hbk h)
    obtain ⟨G', st', locs', fps', F', hsm', hk'⟩ := hn
    exact ih (k + 1) (by omega) st' locs' fps' a' w' G' hsm' F' hk' hQ

end Go.AI

/- Code and functions. -/
namespace Go.AI
open Go

variable {P : Program} {nb : Nat} {E : Ent} {G : Gh} {st st' : St} {locs : Tr V} {fps : Tr FP} {a : Act} {c : Cfg} {w : World}

theorem wp_loopN {c : Code} {Q : Exit → Act → World → Prop} (I : Nat → Act → World → Prop) {n : Nat} {a : Act} {w : World} (h₀ : I n a w)
    (round : ∀ n a w, I n a w → c.wp P (Exit.then (fun a' w' => ∃ m, m < n ∧ I m a' w') Q) a w) : (Code.loop c).wp P Q a w := by
  intro b k cs
  have key : ∀ n a w, I n a w → ∃ e a' w', Q e a' w' ∧ Arrives P (lone (b.at a (.code c :: .inLoop c :: k)) cs w) b k cs e a' w' := by
    intro n
    induction n using Nat.strongRecOn with
    | _ n ih =>
      intro a w hI
      obtain ⟨e, a₁, w₁, hq, harr⟩ := round n a w hI b (.inLoop c :: k) cs
      cases e with
      | normal =>
        obtain ⟨m, hlt, hI₁⟩ := hq
        obtain ⟨e₂, a₂, w₂, hq₂, harr₂⟩ := ih m hlt a₁ w₁ hI₁
        exact ⟨e₂, a₂, w₂, hq₂, .of_steps (Steps.trans harr (.one step_inLoop)) harr₂⟩
      | exit id => exact ⟨_, a₁, w₁, hq, .pass (x := .inLoop c) rfl (fun _ _ => .inl (by simp)) harr⟩
      | goto l => exact ⟨_, a₁, w₁, hq, .pass (x := .inLoop c) rfl (fun _ _ => .inl (by simp)) harr⟩
      | ret => exact ⟨_, a₁, w₁, hq, .pass (x := .inLoop c) rfl (fun _ _ => .inl (by simp)) harr⟩
      | panic ch => exact ⟨_, a₁, w₁, hq, .pass (x := .inLoop c) rfl (fun _ _ => .inl (by simp)) harr⟩
      | outgrown => exact ⟨_, a₁, w₁, hq, .pass (x := .inLoop c) rfl (fun _ _ => .inl (by simp)) harr⟩
  obtain ⟨e, a', w', hq, harr⟩ := key _ a w h₀
  exact ⟨e, a', w', hq, .of_steps (.one step_loop) harr⟩

def toExit : AExit → Exit
  | .normal => .normal
  | .exit id => .exit id
  | .ret => .ret

def Link (c : Cfg) (nb : Nat) (E : Ent) (Qa : AExit → St → Prop) (Q : Exit → Act → World → Prop) : Prop := ∀ e a w, CX c nb E (Qa e) a w → Q (toExit e) a w

/-- what is asked of a region that draws its order -/
def DrawOk (P : Program) (c : Cfg) (nb : Nat) (E : Ent) : Prop :=
  ∀ (ops : Array Oper) (l : List AStmt), (∀ (j : Nat) (s : AStmt), l[j]? = some s → ∃ o, ops.toList[j]? = some o ∧ StmtOk P c ops.toList j o s) → orderOk ops l = true →
    ∀ (K : St → Prop) (Q : Exit → Act → World → Prop) (id : Nat) (a : Act) (w : World), CX c nb E (fun st => arunOps P l 0 st .lf .lf K) a w → (∀ a w, CX c nb E K a w → Q .normal a w) → (Code.region id ops true).wp P Q a w

theorem code_wp (hbk : ∀ t k, (c.env []).boxk t = some k → k < nb) (hdraw : DrawOk P c nb E) : ∀ (x : Code) (ac : ACode), compileCode P c x = some ac → ∀ (Qa : AExit → St → Prop) (Q : Exit → Act → World → Prop) (a : Act) (w : World),
    CX c nb E (fun st => arun P ac st Qa) a w → Link c nb E Qa Q → x.wp P Q a w := by
  intro x
  induction x with
  | skip =>
    intro ac hc Qa Q a w h hl
    simp only [compileCode, Option.some.injEq] at hc
    subst hc
    exact wp_skip (hl .normal a w h)
  | region id ops draw =>
    intro ac hc Qa Q a w h hl
    simp only [compileCode] at hc
    split at hc
    case h_2 => cases hc
    rename_i l hl1
    split at hc
    · cases hc
    rename_i hdr
    cases hc
    obtain ⟨hlen, hget⟩ := compileOps_get (ops := ops.toList) (k := 0) (fun j => by simp) hl1
    have hget' : ∀ (j : Nat) (s : AStmt), l[j]? = some s → ∃ o, ops.toList[j]? = some o ∧ StmtOk P c ops.toList j o s := fun j s hs => by
      obtain ⟨o, h1, h2, _⟩ := hget j s hs
      simp only [Nat.zero_add] at h1 h2
      exact ⟨o, h1, h2⟩
    cases draw with
    | false =>
      obtain ⟨G, st, F, hsm, h⟩ := h
      refine wp_region ?_
      have := arunOps_wp (Q := Q) (ops := ops.toList) hbk hget' hlen (K := regK Qa) ops.size 0 (by simp) st .lf .lf a w G hsm F.enterR (by simpa [arun] using h) (fun a w hx => hl .normal a w hx)
      simpa [List.range_eq_range'] using this
    | true =>
      simp only [Bool.true_and, Bool.not_eq_true', Bool.not_eq_false] at hdr
      refine hdraw ops l hget' hdr (regK Qa) Q id a w (by simpa [arun] using h) (fun a w hx => hl .normal a w hx)
  | seq x y ihx ihy =>
    intro ac hc Qa Q a w h hl
    simp only [compileCode] at hc
    split at hc
    case h_2 => cases hc
    rename_i x' y' hx hy
    cases hc
    refine wp_seq (ihx x' hx (thenK (fun st' => arun P y' st' Qa) Qa) _ a w h fun e a w h => ?_)
    cases e with
    | normal => exact ihy y' hy Qa Q a w h hl
    | exit id => exact hl (.exit id) a w h
    | ret => exact hl .ret a w h
  | cond x u v ihu ihv =>
    intro ac hc Qa Q a w h hl
    simp only [compileCode] at hc
    split at hc
    case h_2 => cases hc
    rename_i y u' v' hy hu hv
    cases hc
    obtain ⟨G, st, F, hsm, h⟩ := h
    simp only [arun] at h
    split at h
    case h_2 => exact h.elim
    rename_i t ht
    have hval := F.erel.res hy
    rw [ht] at hval
    have hb := (hval.bool (b := t) rfl).2
    refine wp_cond hb ?_
    cases t with
    | true => exact ihu u' hu Qa Q a w ⟨G, st, F, hsm, by simpa using h⟩ hl
    | false => exact ihv v' hv Qa Q a w ⟨G, st, F, hsm, by simpa using h⟩ hl
  | block id x ih =>
    intro ac hc Qa Q a w h hl
    simp only [compileCode, Option.map_eq_some_iff] at hc
    obtain ⟨x', hx, rfl⟩ := hc
    refine wp_block (ih x' hx (blockK id Qa) _ a w h fun e a w h => ?_)
    cases e with
    | normal => exact hl .normal a w h
    | exit id' =>
      show if id' = id then Q .normal a w else Q (.exit id') a w
      obtain ⟨G, st, F, hsm, h⟩ := h
      have h : if id' = id then Qa .normal st else Qa (.exit id') st := h
      split
      · rename_i hid; rw [if_pos hid] at h; exact hl .normal a w ⟨G, st, F, hsm, h⟩
      · rename_i hid; rw [if_neg hid] at h; exact hl (.exit id') a w ⟨G, st, F, hsm, h⟩
    | ret => exact hl .ret a w h
  | loop x ih =>
    intro ac hc Qa Q a w h hl
    simp only [compileCode, Option.map_eq_some_iff] at hc
    obtain ⟨x', hx, rfl⟩ := hc
    obtain ⟨G, st, F, hsm, I, n, h0, hr⟩ := h
    refine wp_loopN (fun n => CX c nb E (I n)) (n := n) ⟨G, st, F, hsm, h0⟩ fun n a w hI => ?_
    obtain ⟨G', st', F', hsm', hI'⟩ := hI
    refine ih x' hx (roundK I n Qa) _ a w ⟨G', st', F', hsm', hr n st' hI'⟩ fun e a w h => ?_
    cases e with
    | normal =>
      obtain ⟨G2, st2, F2, hsm2, m, hm, hI2⟩ := h
      exact ⟨m, hm, G2, st2, F2, hsm2, hI2⟩
    | exit id => exact hl (.exit id) a w h
    | ret => exact hl .ret a w h
  | exit id =>
    intro ac hc Qa Q a w h hl
    simp only [compileCode, Option.some.injEq] at hc
    subst hc
    exact wp_exit (hl (.exit id) a w h)
  | ret =>
    intro ac hc Qa Q a w h hl
    simp only [compileCode, Option.some.injEq] at hc
    subst hc
    exact wp_ret (hl .ret a w h)
  | _ => intro ac hc; simp [compileCode] at hc

end Go.AI

/- Functions: from a run of the interpreter's to a contract. -/
namespace Go.AI
open Go

variable {P : Program} {nb : Nat} {E : Ent} {G : Gh} {st st' : St} {locs : Tr V} {fps : Tr FP} {a : Act} {c : Cfg} {w : World}

/-- a place that is read -/
theorem place_load {e : CEnv} {n : Nat} {t : TypeId} {x : Opd} {y : Operand} {l : Option Nat} {v : V} {fp : FP} (F : FRel e n nb E w.heap G st locs a) (hx : e.res y = some x) (hn : loadN P t = some l) (hs : vstep st locs (.load l x) = some (v, st', fp)) :
    ∃ A val, a.eval y = .pointer (some A) ∧ (loadVar t A).run P w = .ok val w ∧ VR w.heap G.S G.μ G.K st.heap v val ∧ st' = st := by
  have hv := F.erel.res hx
  simp only [vstep] at hs
  split at hs
  · rename_i s g q hy
    split at hs
    case h_2 => cases hs
    rename_i g' cs hget
    split at hs
    case isFalse => cases hs
    rename_i hgg
    subst hgg
    simp only [Option.map_eq_some_iff, Prod.mk.injEq] at hs
    obtain ⟨u, hu, rfl, rfl, rfl⟩ := hs
    have hax := (F.res hx hy).vp_inv hget
    obtain ⟨_, _, _, vs, ty, hb, hcs⟩ := F.box s g' cs hget
    obtain ⟨val, h1, h2⟩ := load_rel (P := P) (w := w) (b := G.β s) (o := 0) hn hu (fun j c hj => by
      obtain ⟨v, hv, hr⟩ := hcs.get hj
      exact ⟨v, by simp only [rd, hb, Nat.zero_add]; simpa using hv, hr⟩)
    exact ⟨_, val, hax, by simpa using h1, h2, rfl⟩
  · simp only [Option.map_eq_some_iff, Prod.mk.injEq] at hs
    obtain ⟨⟨v1, h1, fp1⟩, hs, rfl, rfl, rfl⟩ := hs
    simp only [astep] at hs
    split at hs
    · rename_i id gen el off hy
      rw [hy] at hv
      cases ha : st.heap.at id gen with
      | none => rw [ha] at hs; simp at hs
      | some ob =>
        rw [ha] at hs
        cases hel : ob.els[el]? with
        | none => simp [hel] at hs
        | some cs =>
          simp only [hel, Option.bind_some, Option.map_eq_some_iff, Prod.mk.injEq] at hs
          obtain ⟨u, hu, rfl, rfl, _⟩ := hs
          obtain ⟨hlk, _⟩ := Heap.at_look ha
          obtain ⟨hlen, hcell⟩ := elsAt F.hr hlk hel
          obtain ⟨val, h1, h2⟩ := load_rel (P := P) (w := w) hn hu (o := el * ob.sz) hcell
          exact ⟨_, val, ptr_inv hv ha, h1, h2, rfl⟩
    · rename_i el off hy
      rw [hy] at hv
      simp only [Option.map_eq_some_iff, Prod.mk.injEq] at hs
      obtain ⟨u, hu, rfl, rfl, _⟩ := hs
      generalize hax : a.eval y = ax at hv
      cases hv with
      | one hc =>
        cases hc with
        | deep hd => cases hd
        | dp el off b ob vals hS hvv hd =>
          obtain ⟨val, h1, h2⟩ := load_rel (P := P) (w := w) hn hu (o := ob) (fun j c hj => ⟨_, hvv j c hj, hd j c hj⟩)
          exact ⟨_, val, rfl, h1, h2, rfl⟩
    · cases hs

def resOne (tmps : Array Value) : ResultVar → Sem Value
  | .tmp t => pure (tmps.getD t undef)
  | .cell b t => do loadVar t (← asAddr (tmps.getD b undef))

theorem results_run (F : FRel (c.env []) c.n nb E w.heap G st .lf a) : ∀ {rs : List ResultVar} {l : List (Opd × Option (Option Nat))} {vs : List V}, compileRes P c rs = some l → resOf st l = some vs →
    ∃ vals, (rs.mapM (resOne a.tmps)).run P w = .ok vals w ∧ VRs w.heap G.S G.μ G.K st.heap vs vals
  | [], l, vs, hc, hr => by
    simp only [compileRes, Option.some.injEq] at hc
    subst hc
    simp only [resOf, Option.some.injEq] at hr
    subst hr
    exact ⟨[], by simp, rfl, fun i v x h => by simp at h⟩
  | .tmp t :: rs, l, vs, hc, hr => by
    simp only [compileRes] at hc
    split at hc
    case h_2 => cases hc
    rename_i x l' hx hl
    cases hc
    simp only [resOf] at hr
    split at hr
    · cases hr
    · cases hr
    · rename_i vs' hvs _ _
      cases hr
      obtain ⟨vals, h1, h2⟩ := results_run F hl hvs
      refine ⟨a.tmps.getD t undef :: vals, by simp [List.mapM_cons, resOne, h1], by simp [h2.1], fun i v y hv hy => ?_⟩
      cases i with
      | zero =>
        simp only [List.getElem?_cons_zero, Option.some.injEq] at hv hy
        subst hv; subst hy
        exact F.erel.res hx
      | succ i => exact h2.2 i v y (by simpa using hv) (by simpa using hy)
    · cases hr
  | .cell b t :: rs, l, vs, hc, hr => by
    simp only [compileRes] at hc
    split at hc
    case h_2 => cases hc
    rename_i x n l' hx hn hl
    cases hc
    simp only [resOf] at hr
    split at hr
    case h_2 => cases hr
    rename_i v st1 fp1 vs' hv hvs
    cases hr
    obtain ⟨vals, h1, h2⟩ := results_run F hl hvs
    obtain ⟨A, val, hA, hload, hvr, _⟩ := place_load F hx hn hv
    have hA' : a.tmps.getD b undef = .pointer (some A) := hA
    refine ⟨val :: vals, by simp [List.mapM_cons, resOne, h1, hA', asAddr, hload], by simp [h2.1], fun i v y hv hy => ?_⟩
    cases i with
    | zero =>
      simp only [List.getElem?_cons_zero, Option.some.injEq] at hv hy
      subst hv; subst hy
      exact hvr
    | succ i => exact h2.2 i v y (by simpa using hv) (by simpa using hy)

end Go.AI

/- From a run of the interpreter's to a contract. -/
namespace Go.AI
open Go

variable {P : Program} {c : Cfg}

theorem compileParams_get : ∀ {n : Nat} {ps : List Nat}, compileParams c n = some ps → ps.length = n ∧ ∀ i, i < n → ∃ s, ps[i]? = some s ∧ idxIn i c.slots 0 = some s
  | 0, ps, h => by
    simp only [compileParams, Option.some.injEq] at h
    subst h; exact ⟨rfl, fun i hi => by omega⟩
  | n + 1, ps, h => by
    unfold compileParams at h
    split at h
    case h_2 => cases h
    rename_i l s hl hs
    cases h
    obtain ⟨h1, h2⟩ := compileParams_get hl
    refine ⟨by simp [h1], fun i hi => ?_⟩
    by_cases hin : i = n
    · subst hin
      exact ⟨s, by rw [List.getElem?_append_right (by omega), h1]; simp, hs⟩
    · obtain ⟨s', h3, h4⟩ := h2 i (by omega)
      exact ⟨s', by rw [List.getElem?_append_left (by omega)]; exact h3, h4⟩

theorem putAll_other : ∀ {ps : List Nat} {vs : List V} {t : Tr V} {s : Nat}, s ∉ ps → (putAll t ps vs).get s = t.get s
  | [], vs, t, s, h => by cases vs <;> rfl
  | p :: r, [], t, s, h => rfl
  | p :: r, v :: vs, t, s, h => by
    simp only [List.mem_cons, not_or] at h
    simp only [putAll]
    rw [putAll_other h.2, Tr.get_put_ne _ _ h.1]

theorem putAll_get : ∀ {ps : List Nat} {vs : List V} {t : Tr V} {i s : Nat} {v : V}, ps.Nodup → ps[i]? = some s → vs[i]? = some v → (putAll t ps vs).get s = some v
  | [], vs, t, i, s, v, hn, h1, h2 => by simp at h1
  | p :: r, [], t, i, s, v, hn, h1, h2 => by simp at h2
  | p :: r, u :: vs, t, i, s, v, hn, h1, h2 => by
    simp only [List.nodup_cons] at hn
    simp only [putAll]
    cases i with
    | zero =>
      simp only [List.getElem?_cons_zero, Option.some.injEq] at h1 h2
      subst h1; subst h2
      rw [putAll_other hn.1]; simp
    | succ i => exact putAll_get hn.2 (by simpa using h1) (by simpa using h2)

theorem compileFn_ok {f : Func} {af : AFun} (h : compileFn P c f = some af) : ∃ body, f.body = some body ∧ compileCode P c body = some af.body ∧ compileRes P c f.results.toList = some af.results ∧
    compileParams c (f.params.size + f.nfree) = some af.params ∧ af.boxes = c.boxk.length ∧ c.n = f.ntmps ∧ (f.name == "runtime.NumGoroutine") = false := by
  unfold compileFn at h
  split at h
  · cases h
  rename_i body hb
  split at h
  case h_2 => cases h
  rename_i b r ps h1 h2 h3
  split at h
  case isFalse => cases h
  rename_i hc
  cases h
  exact ⟨body, hb, h1, h2, h3, rfl, hc.1, hc.2⟩

theorem plain_facts {v : V} (h : v.plain = true) : (∀ g cs, v ≠ .box g cs) ∧ (∀ x g q, v ≠ .vp x g q) ∧ (∀ vs, v ≠ .tup vs) := by
  cases v <;> simp_all [V.plain]

theorem varV_plain {v : V} (h : v.plain = true) (s : Nat) : varV s (some v) = v := by
  cases v <;> simp_all [V.plain, varV]

theorem VR.extH {hp : Array Go.Obj} {S : Nat → Prop} {μ K : Nat → Nat} {h : Heap} {n : Nat} (hn : h.next ≤ n) (hr : HeapRel hp S μ K h) :
    Ext hp S μ K h hp S μ K { h with next := n } ∧ HeapRel hp S μ K { h with next := n } := by
  have e : Ext hp S μ K h hp S μ K { h with next := n } := ⟨Nat.le_refl _, fun _ _ _ => rfl, fun _ h => h, fun id o hm => ⟨o, hm, Nat.le_refl _, fun _ hl => ⟨hl, rfl, rfl, rfl, rfl⟩⟩, hn, fun id o hl => .inr ⟨o, hl, rfl⟩, fun b h => .inl h⟩
  refine ⟨e, ⟨fun id o hm => Nat.lt_of_lt_of_le (hr.wf id o hm) hn, fun id o hl => ?_, hr.inj, hr.sep, hr.bnd⟩⟩
  obtain ⟨cs', h1, h2, h3, h4, h5⟩ := hr.obj id o hl
  refine ⟨cs', h1, h2, h3, h4, fun i el hi => ⟨(h5 i el hi).1, fun j c hj => ?_⟩⟩
  obtain ⟨v, hv, hc⟩ := (h5 i el hi).2 j c hj
  exact ⟨v, hv, hc.ext hr e⟩

theorem entry_rel {f : Func} {af : AFun} {w : World} {S : Nat → Prop} {μ K : Nat → Nat} {H : Heap} {args : List V} {cargs : Array Value} (hc : compileFn P c f = some af) (hr : HeapRel w.heap S μ K H) (ha : VRs w.heap S μ K H args cargs.toList)
    (hlen : args.length = af.params.length) (hpl : args.all V.plain = true) :
    FRel (c.env []) c.n af.boxes ⟨w, w.heap, S, μ, K, H⟩ w.heap ⟨S, μ, K, fun _ => 0⟩ (enterF af args H) .lf { tmps := cargs ++ Array.replicate (f.ntmps - cargs.size) undef, defers := [] } := by
  obtain ⟨body, hb, h1, h2, h3, h4, h5, _⟩ := compileFn_ok hc
  obtain ⟨hpl1, hpl2⟩ := compileParams_get h3
  obtain ⟨ex, hr'⟩ := VR.extH (n := H.next + af.boxes) (Nat.le_add_right _ _) hr
  have hnd : af.params.Nodup := by
    refine List.pairwise_iff_getElem.2 fun i j hi hj hij heq => ?_
    obtain ⟨s, hs1, hs2⟩ := hpl2 i (by omega)
    obtain ⟨s', hs1', hs2'⟩ := hpl2 j (by omega)
    rw [List.getElem?_eq_getElem hi] at hs1
    rw [List.getElem?_eq_getElem hj] at hs1'
    cases hs1; cases hs1'
    rw [← heq] at hs2'
    have : i = j := slot_inj (c := c) (ops := []) hs2 hs2'
    omega
  have hsz : cargs.size = af.params.length := by rw [← hlen]; have := ha.1; simpa using this.symm
  have hget : ∀ s v, (putAll .lf af.params args).get s = some v → v.plain = true := by
    intro s v hv
    by_cases hm : s ∈ af.params
    · obtain ⟨i, hi⟩ := List.getElem?_of_mem hm
      have hlt : i < args.length := by rw [hlen]; exact (List.getElem?_eq_some_iff.1 hi).1
      rw [putAll_get hnd hi (List.getElem?_eq_getElem hlt)] at hv
      cases hv
      exact List.all_eq_true.1 hpl _ (List.getElem_mem hlt)
    · rw [putAll_other hm] at hv; cases hv
  refine ⟨hr', ex, fun t x hx => ?_, fun s g cs hs => ?_, fun s g cs s' g' cs' hs _ => ?_, by simp [enterF], rfl, ?_⟩
  · have h0 : (c.env []).loc t = none := rfl
    simp only [CEnv.res, h0, Option.map_eq_some_iff] at hx
    obtain ⟨s, hs, rfl⟩ := hx
    simp only [ev, enterF]
    cases hv : (putAll .lf af.params args).get s with
    | none => exact ⟨.undef _, trivial⟩
    | some v =>
      have hp := hget s v hv
      rw [varV_plain hp]
      obtain ⟨p1, p2, p3⟩ := plain_facts hp
      refine ⟨?_, by cases v <;> first | trivial | simp [V.plain] at hp⟩
      have hm : s ∈ af.params := by
        apply Classical.byContradiction
        intro hn
        rw [putAll_other hn] at hv; cases hv
      obtain ⟨i, hi⟩ := List.getElem?_of_mem hm
      have hilt : i < af.params.length := (List.getElem?_eq_some_iff.1 hi).1
      obtain ⟨s', hs1, hs2⟩ := hpl2 i (by omega)
      rw [hi] at hs1; cases hs1
      have hti : t = i := slot_inj (c := c) (ops := []) hs hs2
      subst hti
      have hlt : t < args.length := by rw [hlen]; exact hilt
      rw [putAll_get hnd hi (List.getElem?_eq_getElem hlt)] at hv
      cases hv
      have hct : t < cargs.size := by rw [hsz]; exact hilt
      have := ha.2 t _ cargs[t] (List.getElem?_eq_getElem hlt) (by simp [hct])
      simp only [Act.eval, Array.getD_eq_getD_getElem?]
      rw [Array.getElem?_append_left hct, Array.getElem?_eq_getElem hct]
      exact this.ext hr ex
  · have := hget s _ hs; simp [V.plain] at this
  · have := hget s _ hs; simp [V.plain] at this
  · simp only [Array.size_append, Array.size_replicate]; omega

theorem idxIn_lt {t : Tmp} {l : List Tmp} {k : Nat} (h : idxIn t l 0 = some k) : k < l.length := by
  have := (idxIn_get h).2
  exact (List.getElem?_eq_some_iff.1 this).1

/-- a run of the interpreter's is a contract -/
theorem HV_of_frun {F : FuncId} {f : Func} {af : AFun} {args : List V} {H : Heap} {Q : V → Heap → Prop} (hf : P.funcs[F]? = some f) (hc : compileFn P c f = some af) (hdraw : ∀ E, DrawOk P c af.boxes E) (h : frun P af args H Q) : HV P F args H Q := by
  refine ⟨frun_ex h, ?_⟩
  intro w S μ K cargs hr ha
  obtain ⟨hlen, hpl, hrun⟩ := h
  have F0 := entry_rel hc hr ha hlen hpl
  obtain ⟨body, hb, h1, h2, h3, h4, h5, hname⟩ := compileFn_ok hc
  left
  refine ⟨by
    have hname' : ¬ f.name = "runtime.NumGoroutine" := by simpa using hname
    simp [callFunc, hf, hname', hb], calls_of_wp hf hb ?_⟩
  refine code_wp (nb := af.boxes) (E := ⟨w, w.heap, S, μ, K, H⟩) (fun t k hk => by rw [h4]; exact idxIn_lt hk) (hdraw _) body af.body h1 (retK af.results Q) _ _ w ⟨_, _, F0, Same.refl w, hrun⟩ ?_
  intro e a' w' hx
  obtain ⟨G, st, F1, hsm, hq⟩ := hx
  have fin : (match resV st af.results with | some r => Q r st.heap | none => False) → a'.defers = [] ∧ ∃ v, (results f a'.tmps).run P w' = .ok v w' ∧ ∃ val r H' S' μ' K', Ending.returned v = .returned val ∧ Q r H' ∧ VR w'.heap S' μ' K' H' r val ∧ Ext w.heap S μ K H w'.heap S' μ' K' H' ∧ HeapRel w'.heap S' μ' K' H' ∧ Same w w' := by
    intro hq
    refine ⟨F1.defs, ?_⟩
    split at hq
    case h_2 => exact hq.elim
    rename_i r hr1
    unfold resV at hr1
    have hres : ∀ vals, (f.results.toList.mapM (resOne a'.tmps)).run P w' = .ok vals w' → (results f a'.tmps).run P w' = .ok (if h : vals.toArray.size = 1 then vals.toArray[0] else .tuple vals.toArray) w' := by
      intro vals hv
      have : results f a'.tmps = (do let vs ← f.results.mapM (resOne a'.tmps); pure (if h : vs.size = 1 then vs[0] else .tuple vs)) := by
        unfold results
        congr 2
      rw [this, Array.mapM_eq_mapM_toList]
      simp [hv]
    split at hr1
    · rename_i v hv
      cases hr1
      obtain ⟨vals, hv1, hv2⟩ := results_run F1 h2 hv
      have hl : vals.length = 1 := by have := hv2.1; simpa using this.symm
      match vals, hl with
      | [val], _ =>
        refine ⟨val, by simpa using hres [val] hv1, val, r, st.heap, G.S, G.μ, G.K, rfl, hq, hv2.2 0 _ _ rfl rfl, F1.ext, F1.hr, hsm⟩
    · rename_i vs hne hv
      cases hr1
      obtain ⟨vals, hv1, hv2⟩ := results_run F1 h2 hv
      have hl : vals.length ≠ 1 := by
        intro hl
        have h3 := hv2.1
        match vs, h3 with
        | [v], _ => exact hne v rfl
        | [], h3 => simp at h3; omega
        | _ :: _ :: _, h3 => simp at h3; omega
      refine ⟨.tuple vals.toArray, by have := hres vals hv1; simpa [hl] using this, .tuple vals.toArray, _, st.heap, G.S, G.μ, G.K, rfl, hq, ?_, F1.ext, F1.hr, hsm⟩
      refine .tup (by simpa using hv2.1) (fun i => vals[i]?.getD undef) (fun i c h => ?_) (fun i c h => ?_)
      all_goals
        have hi : i < vals.length := by rw [← hv2.1]; exact (List.getElem?_eq_some_iff.1 h).1
      · simp [hi]
      · have := hv2.2 i c vals[i] h (by simp [hi])
        simpa [hi] using this
    · cases hr1
  cases e with
  | normal => exact fin hq
  | ret => exact fin hq
  | exit id => exact hq.elim

theorem PV_of_HV {F : FuncId} {ds : List V} {Q : V → Heap → Prop} {r0 : V} (h : HV P F ds Heap.empty Q) (hq : ∀ r h, Q r h → (frzV h r).map (·.1) = some r0) : PV P F ds r0 := by
  intro w S cargs hb ha
  have none : ∀ id o, Heap.empty.look id ≠ some o := fun id o hl => by
    have := (Heap.look_mem hl).1
    rw [Heap.empty_get] at this; cases this
  have hr : HeapRel w.heap S mu0 mu0 Heap.empty :=
    ⟨fun id o hm => (by rw [Heap.empty_get] at hm; cases hm), fun id o hl => absurd hl (none id o), fun id o id' o' hl => absurd hl (none id o), fun id o hl => absurd hl (none id o), hb⟩
  refine (h.2 w S mu0 mu0 cargs hr ha).mono ?_
  rintro e w' ⟨val, r, H', S', μ', K', rfl, hQ, hv, ex, hr', hsm⟩
  have hz := hq r H' hQ
  simp only [Option.map_eq_some_iff] at hz
  obtain ⟨⟨r1, ids⟩, hz, rfl⟩ := hz
  obtain ⟨S'', hS, ex2, hr2⟩ := killAll ids hr'
  refine ⟨val, S'', rfl, frzV_sound hr' (fun b h => (hS b).2 (.inl h)) hv hz (fun id hid o ho => (hS _).2 (.inr ⟨id, o, hid, ho, rfl⟩)), ex.size, fun b hb => ex.keep b hb fun id o hl => absurd hl (none id o), fun b h => (hS b).2 (.inl (ex.sub b h)), fun b h => ?_, hr2.bnd, hsm⟩
  rcases (hS b).1 h with h | ⟨id, o, _, ho, rfl⟩
  · rcases ex.back b h with h | h | ⟨id, o, ho, _⟩
    · exact .inl h
    · exact .inr h
    · exact absurd ho (none id o)
  · rcases ex.own id o ho with h | ⟨o', ho', _⟩
    · exact .inr h
    · exact absurd ho' (none id o')

theorem PV_of_frun {F : FuncId} {f : Func} {af : AFun} {ds : List V} {r0 : V} (hf : P.funcs[F]? = some f) (hc : compileFn P c f = some af) (hdraw : ∀ E, DrawOk P c af.boxes E)
    (h : frun P af ds Heap.empty fun r h => (frzV h r).map (·.1) = some r0) : PV P F ds r0 := PV_of_HV (HV_of_frun hf hc hdraw h) fun _ _ h => h

end Go.AI

/- What a step does hangs on what it reads alone, and is a list of writes. -/
namespace Go.AI
open Go

/-! ### stores commute -/
theorem Tr.putF_z {α : Type} (f : Nat) (t : Tr α) (x : α) : Tr.putF (f + 1) t 0 x = .nd (some x) t.le t.ri := by simp [Tr.putF]
theorem Tr.putF_o {α : Type} {f n : Nat} (t : Tr α) (x : α) (h0 : n ≠ 0) (h1 : n % 2 = 1) : Tr.putF (f + 1) t n x = .nd t.val (Tr.putF f t.le (n / 2) x) t.ri := by simp [Tr.putF, h0, h1]
theorem Tr.putF_e {α : Type} {f n : Nat} (t : Tr α) (x : α) (h0 : n ≠ 0) (h1 : ¬ n % 2 = 1) : Tr.putF (f + 1) t n x = .nd t.val t.le (Tr.putF f t.ri (n / 2 - 1) x) := by simp [Tr.putF, h0, h1]

theorem Tr.putF_comm {α : Type} (x y : α) : ∀ (f g n m : Nat) (t : Tr α), n < f → m < g → n ≠ m → Tr.putF g (Tr.putF f t n x) m y = Tr.putF f (Tr.putF g t m y) n x
  | 0, g, n, m, t, h, _, _ => by omega
  | f + 1, 0, n, m, t, _, h, _ => by omega
  | f + 1, g + 1, n, m, t, hn, hm, hne => by
    by_cases n0 : n = 0 <;> by_cases m0 : m = 0
    · omega
    · subst n0
      by_cases m1 : m % 2 = 1
      · rw [Tr.putF_z, Tr.putF_o _ _ m0 m1, Tr.putF_o _ _ m0 m1, Tr.putF_z]; rfl
      · rw [Tr.putF_z, Tr.putF_e _ _ m0 m1, Tr.putF_e _ _ m0 m1, Tr.putF_z]; rfl
    · subst m0
      by_cases n1 : n % 2 = 1
      · rw [Tr.putF_z, Tr.putF_o _ _ n0 n1, Tr.putF_o _ _ n0 n1, Tr.putF_z]; rfl
      · rw [Tr.putF_z, Tr.putF_e _ _ n0 n1, Tr.putF_e _ _ n0 n1, Tr.putF_z]; rfl
    · by_cases n1 : n % 2 = 1 <;> by_cases m1 : m % 2 = 1
      · rw [Tr.putF_o _ _ n0 n1, Tr.putF_o _ _ m0 m1, Tr.putF_o _ _ m0 m1, Tr.putF_o _ _ n0 n1]
        simp only [Tr.val, Tr.le, Tr.ri]
        rw [Tr.putF_comm x y f g (n / 2) (m / 2) _ (by omega) (by omega) (by omega)]
      · rw [Tr.putF_o _ _ n0 n1, Tr.putF_e _ _ m0 m1, Tr.putF_e _ _ m0 m1, Tr.putF_o _ _ n0 n1]; rfl
      · rw [Tr.putF_e _ _ n0 n1, Tr.putF_o _ _ m0 m1, Tr.putF_o _ _ m0 m1, Tr.putF_e _ _ n0 n1]; rfl
      · rw [Tr.putF_e _ _ n0 n1, Tr.putF_e _ _ m0 m1, Tr.putF_e _ _ m0 m1, Tr.putF_e _ _ n0 n1]
        simp only [Tr.val, Tr.le, Tr.ri]
        rw [Tr.putF_comm x y f g (n / 2 - 1) (m / 2 - 1) _ (by omega) (by omega) (by omega)]

theorem Tr.put_comm {α : Type} (t : Tr α) {n m : Nat} (x y : α) (h : n ≠ m) : (t.put n x).put m y = (t.put m y).put n x :=
  Tr.putF_comm x y (n + 1) (m + 1) n m t (by omega) (by omega) h

def puts {α : Type} (t : Tr α) : List (Nat × α) → Tr α
  | [] => t
  | (n, x) :: r => puts (t.put n x) r

theorem puts_put {α : Type} : ∀ (l : List (Nat × α)) (t : Tr α) (m : Nat) (y : α), (∀ p ∈ l, p.1 ≠ m) → puts (t.put m y) l = (puts t l).put m y
  | [], t, m, y, _ => rfl
  | (n, x) :: r, t, m, y, h => by
    simp only [puts]
    rw [Tr.put_comm t y x (fun e => h (n, x) (by simp) e.symm), puts_put r _ m y (fun p hp => h p (by simp [hp]))]

theorem puts_comm {α : Type} : ∀ (l k : List (Nat × α)) (t : Tr α), (∀ p ∈ l, ∀ q ∈ k, p.1 ≠ q.1) → puts (puts t l) k = puts (puts t k) l
  | [], k, t, _ => rfl
  | (n, x) :: r, k, t, h => by
    simp only [puts]
    rw [puts_comm r k _ (fun p hp q hq => h p (by simp [hp]) q hq), puts_put k t n x (fun q hq e => h (n, x) (by simp) q hq e.symm)]

theorem puts_get {α : Type} : ∀ (l : List (Nat × α)) (t : Tr α) (m : Nat), (∀ p ∈ l, p.1 ≠ m) → (puts t l).get m = t.get m
  | [], t, m, _ => rfl
  | (n, x) :: r, t, m, h => by
    simp only [puts]
    rw [puts_get r _ m (fun p hp => h p (by simp [hp])), Tr.get_put_ne _ _ (fun e => h (n, x) (by simp) e.symm)]

/-! ### a step's writes -/
structure Patch where
  objs : List (Nat × Obj)
  nw : Nat
  vars : List (Nat × V)

def Patch.app (π : Patch) (st : St) : St := { st with vars := puts st.vars π.vars, heap := { next := st.heap.next + π.nw, mem := puts st.heap.mem π.objs } }

def Patch.none : Patch := ⟨[], 0, []⟩
theorem Patch.none_app (st : St) : Patch.none.app st = st := rfl

def genOf : Option V → Option Nat
  | some (.box g _) => some g
  | _ => none

structure Patch.In (π : Patch) (fp : FP) (st : St) : Prop where
  objs : ∀ p ∈ π.objs, p.1 ∈ fp.wr
  nw : π.nw ≠ 0 → fp.nw = true
  vars : ∀ p ∈ π.vars, p.1 ∈ fp.wv
  gens : ∀ p ∈ π.vars, isBox (some p.2) = true ∧ genOf (st.vars.get p.1) = genOf (some p.2)

theorem Patch.none_in (fp : FP) (st : St) : Patch.none.In fp st := ⟨by simp [Patch.none], by simp [Patch.none], by simp [Patch.none], by simp [Patch.none]⟩

structure Agree (fp : FP) (st st2 : St) : Prop where
  base : st2.base = st.base
  mem : ∀ id, id ∈ fp.rd ∨ id ∈ fp.wr → st2.heap.mem.get id = st.heap.mem.get id
  nw : fp.nw = true → st2.heap.next = st.heap.next
  vars : ∀ s, s ∈ fp.rv ∨ s ∈ fp.wv → st2.vars.get s = st.vars.get s
  gen : ∀ s g, s ∈ fp.rg → st2.now s g = st.now s g

theorem Heap.at_congr {h h2 : Heap} {id : Nat} (e : h2.mem.get id = h.mem.get id) (g : Nat) : h2.at id g = h.at id g := by simp [Heap.at, Heap.look, e]
theorem Heap.fresh_congr {h h2 : Heap} {id : Nat} (e : h2.mem.get id = h.mem.get id) : h2.fresh id = h.fresh id := by simp [Heap.fresh, e]

/-- what is shown of a step -/
def Loc (f : St → Tr V → Option (V × St × FP)) (xs : List Opd) : Prop :=
  ∀ st locs v st' fp, f st locs = some (v, st', fp) → ∃ π : Patch, st' = π.app st ∧ π.In fp st ∧
    ∀ st2 locs2, Agree fp st st2 → (∀ x ∈ xs, ev st2 locs2 x = ev st locs x) → f st2 locs2 = some (v, π.app st2, fp)

theorem partsOf_congr {st st2 : St} {locs locs2 : Tr V} : ∀ {ps : List (Nat × Nat × Opd)}, (∀ x ∈ ps.map (·.2.2), ev st2 locs2 x = ev st locs x) → partsOf st2 locs2 ps = partsOf st locs ps
  | [], _ => rfl
  | (off, n, x) :: r, h => by
    unfold partsOf
    rw [h x (by simp), partsOf_congr (ps := r) (fun y hy => h y (by simp only [List.map_cons, List.mem_cons]; exact .inr hy))]

theorem litOf_congr {st st2 : St} {locs locs2 : Tr V} {sz : Nat} : ∀ {ps : List (Nat × Opd)}, (∀ x ∈ ps.map (·.2), ev st2 locs2 x = ev st locs x) → litOf st2 locs2 sz ps = litOf st locs sz ps
  | [], _ => rfl
  | (i, x) :: r, h => by
    unfold litOf
    rw [h x (by simp), litOf_congr (ps := r) (fun y hy => h y (by simp only [List.map_cons, List.mem_cons]; exact .inr hy))]

theorem mapM_one_congr {st st2 : St} {locs locs2 : Tr V} : ∀ {l : List Opd}, (∀ x ∈ l, ev st2 locs2 x = ev st locs x) → l.mapM (fun o => one? (ev st2 locs2 o)) = l.mapM (fun o => one? (ev st locs o))
  | [], _ => rfl
  | x :: r, h => by
    simp only [List.mapM_cons, h x (by simp), mapM_one_congr (l := r) (fun y hy => h y (by simp [hy]))]

def A (op : AOp) (st : St) (locs : Tr V) : Option (V × St × FP) := (astep st locs op).map fun (v, h, fp) => (v, { st with heap := h }, fp)

/-- a step that reckons only -/
theorem loc_pure {op : AOp} (f : St → Tr V → Option V) (hf : ∀ st locs, astep st locs op = (f st locs).map fun v => (v, st.heap, FP.no))
    (hc : ∀ st locs st2 locs2, (∀ x ∈ op.opds, ev st2 locs2 x = ev st locs x) → f st2 locs2 = f st locs) : Loc (A op) op.opds := by
  intro st locs v st' fp h
  simp only [A, hf, Option.map_map, Option.map_eq_some_iff, Function.comp] at h
  obtain ⟨u, hu, h⟩ := h
  simp only [Prod.mk.injEq] at h
  obtain ⟨rfl, rfl, rfl⟩ := h
  refine ⟨.none, rfl, Patch.none_in _ _, fun st2 locs2 _ he => ?_⟩
  simp only [A, hf, hc st locs st2 locs2 he, hu, Option.map_some]
  rfl

end Go.AI

/- Every step that calls nothing hangs on what it reads alone. -/
namespace Go.AI
open Go

theorem elsOf_congr {h h2 : Heap} {v : V} (e : ∀ id ∈ rdOf v, h2.mem.get id = h.mem.get id) : elsOf h2 v = elsOf h v := by
  cases v with
  | one c =>
    cases c with
    | sl id gen off len => simp only [elsOf]; rw [Heap.at_congr (e id (by simp [rdOf]))]
    | _ => rfl
  | _ => rfl

theorem sliceC_congr {h h2 : Heap} {str : Bool} {sz : Nat} {v : V} {lo hi : Option Int} (e : ∀ id ∈ rdOf v, h2.mem.get id = h.mem.get id) : sliceC h2 str sz v lo hi = sliceC h str sz v lo hi := by
  cases v with
  | one c =>
    cases c with
    | sl id gen off len => cases str <;> simp only [sliceC]; rw [Heap.at_congr (e id (by simp [rdOf]))]
    | _ => cases str <;> rfl
  | _ => cases str <;> rfl

/-- a step that reads objects, and writes none -/
theorem loc_read {op : AOp} {st : St} {locs : Tr V} {v : V} {st' : St} {fp : FP} (_h : A op st locs = some (v, st', fp)) (hsame : st' = st)
    (hc : ∀ st2 locs2, Agree fp st st2 → (∀ x ∈ op.opds, ev st2 locs2 x = ev st locs x) → A op st2 locs2 = some (v, st2, fp)) :
    ∃ π : Patch, st' = π.app st ∧ π.In fp st ∧ ∀ st2 locs2, Agree fp st st2 → (∀ x ∈ op.opds, ev st2 locs2 x = ev st locs x) → A op st2 locs2 = some (v, π.app st2, fp) :=
  ⟨.none, by rw [hsame]; rfl, Patch.none_in _ _, hc⟩

theorem set_app (st : St) (id : Nat) (o : Obj) : ({ st with heap := st.heap.set id o } : St) = (Patch.mk [(id, o)] 0 []).app st := rfl
theorem new_app (st : St) (ty sz : Nat) (els : List (List C)) : ({ st with heap := st.heap.new ty sz els } : St) = (Patch.mk [(st.heap.next, { gen := st.heap.fresh st.heap.next, ty, sz, live := true, els })] 1 []).app st := rfl

theorem new_app2 {st st2 : St} {ty sz : Nat} {els : List (List C)} (hn : st2.heap.next = st.heap.next) (hf : st2.heap.mem.get st.heap.next = st.heap.mem.get st.heap.next) :
    ({ st2 with heap := st2.heap.new ty sz els } : St) = (Patch.mk [(st.heap.next, { gen := st.heap.fresh st.heap.next, ty, sz, live := true, els })] 1 []).app st2 := by
  rw [new_app, hn, Heap.fresh_congr hf]

theorem in_set {id : Nat} {o : Obj} {fp : FP} {st : St} (h : id ∈ fp.wr) : (Patch.mk [(id, o)] 0 []).In fp st := ⟨by simpa using h, by simp, by simp, by simp⟩
theorem in_new {id : Nat} {o : Obj} {fp : FP} {st : St} (h : id ∈ fp.wr) (hn : fp.nw = true) : (Patch.mk [(id, o)] 1 []).In fp st := ⟨by simpa using h, fun _ => hn, by simp, by simp⟩

theorem appendC_loc {h : Heap} {ty sz bytes : Nat} {x : V} {news : List (List C)} {v : V} {h' : Heap} {fp : FP} (hs : appendC h ty sz bytes x news = some (v, h', fp)) :
    (h' = h ∧ ∀ h2, (∀ id, id ∈ fp.rd ∨ id ∈ fp.wr → h2.mem.get id = h.mem.get id) → appendC h2 ty sz bytes x news = some (v, h2, fp)) ∨
    (∃ id o, id ∈ fp.wr ∧ h' = h.set id o ∧ ∀ h2, (∀ id, id ∈ fp.rd ∨ id ∈ fp.wr → h2.mem.get id = h.mem.get id) → appendC h2 ty sz bytes x news = some (v, h2.set id o, fp)) ∨
    (∃ els, h.next ∈ fp.wr ∧ fp.nw = true ∧ h' = h.new ty sz els ∧ ∀ h2, h2.next = h.next → (∀ id, id ∈ fp.rd ∨ id ∈ fp.wr → h2.mem.get id = h.mem.get id) → appendC h2 ty sz bytes x news = some (v, h2.new ty sz els, fp)) := by
  unfold appendC at hs
  split at hs
  case isFalse => cases hs
  rename_i hall
  split at hs
  · split at hs
    · rename_i hn
      cases hs
      exact .inl ⟨rfl, fun h2 _ => by simp [appendC, hn]⟩
    · rename_i hn
      split at hs
      case isFalse => cases hs
      rename_i hb
      cases hs
      refine .inr (.inr ⟨news, by simp [FP.fresh], rfl, rfl, fun h2 he hm => ?_⟩)
      have := Heap.fresh_congr (hm h.next (by simp [FP.fresh]))
      unfold appendC
      rw [if_pos hall]
      simp only [hn, if_false, hb, if_true, he, this]
  · rename_i id gen off len
    split at hs
    case h_2 => cases hs
    rename_i o ha
    split at hs
    case isFalse => cases hs
    rename_i h1
    split at hs
    · rename_i h2
      cases hs
      refine .inr (.inl ⟨id, _, by simp [FP.write, FP.no], rfl, fun h3 hm => ?_⟩)
      have := Heap.at_congr (hm id (by simp [FP.write, FP.no])) gen
      unfold appendC
      rw [if_pos hall]
      simp only [this, ha]
      rw [if_pos h1, if_pos h2]
    · rename_i h2
      split at hs
      case isFalse => cases hs
      rename_i h3
      cases hs
      refine .inr (.inl ⟨id, _, by simp [FP.write, FP.no], rfl, fun h4 hm => ?_⟩)
      have := Heap.at_congr (hm id (by simp [FP.write, FP.no])) gen
      unfold appendC
      rw [if_pos hall]
      simp only [this, ha]
      rw [if_pos h1, if_neg h2, if_pos h3]
  · cases hs

theorem astep_loc (op : AOp) : Loc (A op) op.opds := by
  cases op with
  | mov x => exact loc_pure (fun st locs => some (ev st locs x)) (fun st locs => rfl) (fun st locs st2 locs2 h => by simp only [h x (by simp [AOp.opds])])
  | pick c a b =>
    refine loc_pure (fun st locs => (asBool? (ev st locs c)).map fun t => if t then ev st locs a else ev st locs b) (fun st locs => by simp [astep, Function.comp_def]) (fun st locs st2 locs2 h => ?_)
    simp only [h c (by simp [AOp.opds]), h a (by simp [AOp.opds]), h b (by simp [AOp.opds])]
  | build z ps =>
    refine loc_pure (fun st locs => ((partsOf st locs ps).bind (fillC z)).map .agg) (fun st locs => by simp [astep, Function.comp_def]) (fun st locs st2 locs2 h => ?_)
    simp only [partsOf_congr h]
  | lit sz len z ps =>
    refine loc_pure (fun st locs => ((litOf st locs sz ps).bind (fillL (List.replicate len z))).map fun els => if els = [] then .one .nils else .lit els) (fun st locs => by simp [astep, Function.comp_def]) (fun st locs st2 locs2 h => ?_)
    simp only [litOf_congr h]
  | nilCheck x =>
    refine loc_pure (fun st locs => match ev st locs x with | .one (.ptr id gen el off) => some (.one (.ptr id gen el off)) | .one (.dp el off) => some (.one (.dp el off)) | .one (.fn f caps) => some (.one (.fn f caps)) | _ => none)
      (fun st locs => by simp only [astep]; split <;> simp_all) (fun st locs st2 locs2 h => by simp only [h x (by simp [AOp.opds])])
  | bin o t x y =>
    refine loc_pure (fun st locs => match ev st locs x, ev st locs y with | .one a, .one b => (binC o t a b).map .one | _, _ => none)
      (fun st locs => by simp only [astep]; split <;> simp_all [Function.comp_def]) (fun st locs st2 locs2 h => by simp only [h x (by simp [AOp.opds]), h y (by simp [AOp.opds])])
  | not x => exact loc_pure (fun st locs => (asBool? (ev st locs x)).map fun b => .one (.bool (!b))) (fun st locs => by simp [astep, Function.comp_def]) (fun st locs st2 locs2 h => by simp only [h x (by simp [AOp.opds])])
  | conv k x => exact loc_pure (fun st locs => (asInt? (ev st locs x)).map fun n => .one (.int k (k.wrap n))) (fun st locs => by simp [astep, Function.comp_def]) (fun st locs st2 locs2 h => by simp only [h x (by simp [AOp.opds])])
  | appendZ ty sz bytes z l c =>
    intro st locs v st' fp h
    simp only [A, astep] at h
    split at h
    case h_2 => simp at h
    rename_i m hn hm
    split at h
    case isFalse => simp at h
    rename_i hcond
    simp only [Option.map_some, Option.some.injEq, Prod.mk.injEq] at h
    obtain ⟨rfl, rfl, rfl⟩ := h
    refine ⟨_, new_app _ _ _ _, in_new (by simp [FP.fresh]) rfl, fun st2 locs2 ha he => ?_⟩
    have hn2 := ha.nw rfl
    have hm2 := ha.mem st.heap.next (by simp [FP.fresh])
    simp only [A, astep, he l (by simp [AOp.opds]), he c (by simp [AOp.opds]), hn, hm]
    rw [if_pos hcond]
    simp only [Option.map_some]
    rw [new_app2 hn2 hm2, hn2, Heap.fresh_congr hm2]
  | cap x =>
    refine loc_pure (fun st locs => match ev st locs x with | .one .nils => some (.one (.int .i64 0)) | _ => none)
      (fun st locs => by simp only [astep]; split <;> simp_all) (fun st locs st2 locs2 h => by simp only [h x (by simp [AOp.opds])])
  | bad => exact fun st locs v st' fp h => by simp [A, astep] at h
  | strOf x =>
    intro st locs v st' fp h
    refine loc_read (op := .strOf x) h ?_ ?_
    · simp only [A, astep, Option.map_map, Option.map_eq_some_iff, Function.comp, Prod.mk.injEq] at h
      obtain ⟨_, _, _, h, _⟩ := h; exact h.symm
    · intro st2 locs2 ha he
      simp only [A, astep] at h ⊢
      rw [he x (by simp [AOp.opds])]
      simp only [Option.map_map, Option.map_eq_some_iff, Function.comp] at h
      obtain ⟨u, hu, h⟩ := h
      simp only [Prod.mk.injEq] at h
      obtain ⟨rfl, rfl, rfl⟩ := h
      rw [elsOf_congr (fun id hid => ha.mem id (by simp [FP.read, hid])), hu]; rfl
  | fieldAddr off x =>
    refine loc_pure (fun st locs => match ev st locs x with | .one c => (addC off c).map .one | _ => none)
      (fun st locs => by simp only [astep]; split <;> simp_all [Function.comp_def]) (fun st locs st2 locs2 h => by simp only [h x (by simp [AOp.opds])])
  | field off n x =>
    refine loc_pure (fun st locs => match ev st locs x with | .agg cs => cellsAt cs off n | _ => none)
      (fun st locs => by simp only [astep]; split <;> simp_all) (fun st locs st2 locs2 h => by simp only [h x (by simp [AOp.opds])])
  | index x i =>
    refine loc_pure (fun st locs => match ev st locs x, asInt? (ev st locs i) with | .one (.str s), some n => if 0 ≤ n then (s[n.toNat]?).map fun b => .one (.int .u8 b.toNat) else none | _, _ => none)
      (fun st locs => by
        simp only [astep]
        split
        · rename_i s n h1 h2
          simp only [h1, h2]
          by_cases h0 : 0 ≤ n
          · rw [if_pos h0, if_pos h0]; simp [Function.comp_def]
          · rw [if_neg h0, if_neg h0]; rfl
        · simp_all) (fun st locs st2 locs2 h => by simp only [h x (by simp [AOp.opds]), h i (by simp [AOp.opds])])
  | len str x => exact loc_pure (fun st locs => (lenOf str (ev st locs x)).map fun (n : Nat) => .one (.int .i64 (n : Int))) (fun st locs => by simp [astep, Function.comp_def]) (fun st locs st2 locs2 h => by simp only [h x (by simp [AOp.opds])])
  | copy sz x y => exact fun st locs v st' fp h => by simp [A, astep] at h
  | minmax mx x y =>
    refine loc_pure (fun st locs => match ev st locs x, ev st locs y with | .one (.int k a), .one (.int _ b) => some (.one (.int k (if mx then (if b > a then b else a) else (if b < a then b else a)))) | _, _ => none)
      (fun st locs => by simp only [astep]; split <;> simp_all) (fun st locs st2 locs2 h => by simp only [h x (by simp [AOp.opds]), h y (by simp [AOp.opds])])
  | extract x i =>
    refine loc_pure (fun st locs => match ev st locs x with | .tup vs => vs[i]? | _ => none)
      (fun st locs => by simp only [astep]; split <;> simp_all) (fun st locs st2 locs2 h => by simp only [h x (by simp [AOp.opds])])
  | mkfn f caps =>
    refine loc_pure (fun st locs => (caps.mapM fun o => one? (ev st locs o)).map fun cs => .one (.fn f cs)) (fun st locs => by simp [astep, Function.comp_def]) (fun st locs st2 locs2 h => ?_)
    have := mapM_one_congr (l := caps) h
    simp only [this]
  | boxV s t z x => exact fun st locs v st' fp h => by simp [A, astep] at h
  | call f l b => exact fun st locs v st' fp h => by simp [A, astep] at h
  | callV x l => exact fun st locs v st' fp h => by simp [A, astep] at h
  | boxS k ty sz x =>
    intro st locs v st' fp h
    simp only [A, astep] at h
    split at h
    case h_2 => simp at h
    rename_i cs hcs
    split at h
    case isFalse => simp at h
    rename_i hl
    simp only [Option.map_some, Option.some.injEq, Prod.mk.injEq] at h
    obtain ⟨rfl, rfl, rfl⟩ := h
    refine ⟨_, set_app _ _ _, in_set (by simp [FP.write, FP.no]), fun st2 locs2 ha he => ?_⟩
    have hf := Heap.fresh_congr (ha.mem (st.base + k) (by simp [FP.write, FP.no]))
    have hb := ha.base
    simp only [A, astep, he x (by simp [AOp.opds]), hcs]
    rw [if_pos hl]
    simp [Patch.app, puts, Heap.set, hb, hf]
  | boxD ty sz x =>
    intro st locs v st' fp h
    simp only [A, astep] at h
    split at h
    case h_2 => simp at h
    rename_i cs hcs
    split at h
    case isFalse => simp at h
    rename_i hl
    simp only [Option.map_some, Option.some.injEq, Prod.mk.injEq] at h
    obtain ⟨rfl, rfl, rfl⟩ := h
    refine ⟨_, new_app _ _ _ _, in_new (by simp [FP.fresh]) rfl, fun st2 locs2 ha he => ?_⟩
    have hn := ha.nw rfl
    have hm := ha.mem st.heap.next (by simp [FP.fresh])
    simp only [A, astep, he x (by simp [AOp.opds]), hcs]
    rw [if_pos hl]
    simp only [Option.map_some]
    rw [new_app2 hn hm, hn, Heap.fresh_congr hm]
  | litD ty sz len z ps =>
    intro st locs v st' fp h
    simp only [A, astep, Option.map_map, Option.map_eq_some_iff, Function.comp] at h
    obtain ⟨els, hels, h⟩ := h
    simp only [Prod.mk.injEq] at h
    obtain ⟨rfl, rfl, rfl⟩ := h
    refine ⟨_, new_app _ _ _ _, in_new (by simp [FP.fresh]) rfl, fun st2 locs2 ha he => ?_⟩
    have hn := ha.nw rfl
    have hm := ha.mem st.heap.next (by simp [FP.fresh])
    simp only [A, astep, litOf_congr he, hels, Option.map_some]
    rw [new_app2 hn hm, hn, Heap.fresh_congr hm]
  | load n x =>
    intro st locs v st' fp h
    refine loc_read (op := .load n x) h ?_ ?_
    · simp only [A, astep] at h
      split at h
      · simp only [Option.map_map, Option.map_eq_some_iff, Function.comp, Prod.mk.injEq] at h
        obtain ⟨_, _, _, h, _⟩ := h; exact h.symm
      · simp only [Option.map_map, Option.map_eq_some_iff, Function.comp, Prod.mk.injEq] at h
        obtain ⟨_, _, _, h, _⟩ := h; exact h.symm
      · simp at h
    · intro st2 locs2 ha he
      simp only [A, astep] at h ⊢
      rw [he x (by simp [AOp.opds])]
      split at h
      · rename_i id gen el off hx
        simp only [Option.map_map, Option.map_eq_some_iff, Function.comp] at h
        obtain ⟨u, hu, h⟩ := h
        simp only [Prod.mk.injEq] at h
        obtain ⟨rfl, rfl, rfl⟩ := h
        rw [Heap.at_congr (ha.mem id (by simp [FP.read])), hu]; rfl
      · rename_i el off hx
        simp only [Option.map_map, Option.map_eq_some_iff, Function.comp] at h
        obtain ⟨u, hu, h⟩ := h
        simp only [Prod.mk.injEq] at h
        obtain ⟨rfl, rfl, rfl⟩ := h
        rw [hu]; rfl
      · simp at h
  | store n p x =>
    intro st locs v st' fp h
    simp only [A, astep] at h
    split at h
    case h_2 => simp at h
    rename_i id gen el off cs hp hx
    split at h
    case h_2 => simp at h
    rename_i o ho
    split at h
    case h_2 => simp at h
    rename_i e hel
    split at h
    case isFalse => simp at h
    rename_i hcond
    simp only [Option.map_some, Option.some.injEq, Prod.mk.injEq] at h
    obtain ⟨rfl, rfl, rfl⟩ := h
    refine ⟨_, set_app _ _ _, in_set (by simp [FP.write, FP.no]), fun st2 locs2 ha he => ?_⟩
    have hm := Heap.at_congr (ha.mem id (by simp [FP.write, FP.no])) gen
    simp only [A, astep, he p (by simp [AOp.opds]), he x (by simp [AOp.opds]), hp, hx, hm, ho, hel]
    rw [if_pos hcond]; rfl
  | mkSlice ty sz bytes z l c =>
    intro st locs v st' fp h
    simp only [A, astep] at h
    split at h
    case h_2 => simp at h
    rename_i n m hn hm
    split at h
    case isFalse => simp at h
    rename_i hcond
    simp only [Option.map_some, Option.some.injEq, Prod.mk.injEq] at h
    obtain ⟨rfl, rfl, rfl⟩ := h
    refine ⟨_, new_app _ _ _ _, in_new (by simp [FP.fresh]) rfl, fun st2 locs2 ha he => ?_⟩
    have hn2 := ha.nw rfl
    have hm2 := ha.mem st.heap.next (by simp [FP.fresh])
    simp only [A, astep, he l (by simp [AOp.opds]), he c (by simp [AOp.opds]), hn, hm]
    rw [if_pos hcond]
    simp only [Option.map_some]
    rw [new_app2 hn2 hm2, hn2, Heap.fresh_congr hm2]
  | slice str sz x lo hi =>
    intro st locs v st' fp h
    have hlo : ∀ st2 locs2, (∀ y ∈ (AOp.slice str sz x lo hi).opds, ev st2 locs2 y = ev st locs y) → lo.map (fun o => asInt? (ev st2 locs2 o)) = lo.map (fun o => asInt? (ev st locs o)) ∧ hi.map (fun o => asInt? (ev st2 locs2 o)) = hi.map (fun o => asInt? (ev st locs o)) := by
      intro st2 locs2 he
      constructor
      · cases lo with
        | none => rfl
        | some y => simp only [Option.map_some]; rw [he y (by simp [AOp.opds])]
      · cases hi with
        | none => rfl
        | some y => simp only [Option.map_some]; rw [he y (by simp [AOp.opds])]
    refine loc_read (op := .slice str sz x lo hi) h ?_ ?_
    · simp only [A, astep] at h
      split at h
      · simp at h
      · simp at h
      · simp only [Option.map_map, Option.map_eq_some_iff, Function.comp, Prod.mk.injEq] at h
        obtain ⟨_, _, _, h, _⟩ := h; exact h.symm
    · intro st2 locs2 ha he
      obtain ⟨e1, e2⟩ := hlo st2 locs2 he
      simp only [A, astep] at h ⊢
      rw [he x (by simp [AOp.opds]), e1, e2]
      split at h
      · simp at h
      · simp at h
      · simp only [Option.map_map, Option.map_eq_some_iff, Function.comp] at h
        obtain ⟨u, hu, h⟩ := h
        simp only [Prod.mk.injEq] at h
        obtain ⟨rfl, rfl, rfl⟩ := h
        rw [sliceC_congr (fun id hid => ha.mem id (by simp [FP.read, hid])), hu]; rfl
  | indexAddr sz x i =>
    intro st locs v st' fp h
    refine loc_read (op := .indexAddr sz x i) h ?_ ?_
    · simp only [A, astep] at h
      split at h
      · split at h
        · simp only [Option.map_eq_some_iff, Option.bind_eq_some_iff] at h
          obtain ⟨⟨v1, h1, fp1⟩, ⟨el, _, h2⟩, h3⟩ := h
          split at h2
          · cases h2; simp only [Prod.mk.injEq] at h3; exact h3.2.1.symm
          · cases h2
        · simp at h
      · split at h
        · simp only [Option.map_eq_some_iff, Option.bind_eq_some_iff] at h
          obtain ⟨⟨v1, h1, fp1⟩, ⟨el, _, h2⟩, h3⟩ := h
          split at h2
          · cases h2; simp only [Prod.mk.injEq] at h3; exact h3.2.1.symm
          · cases h2
        · simp at h
      · split at h
        · split at h
          · simp only [Option.map_some, Option.some.injEq, Prod.mk.injEq] at h; exact h.2.1.symm
          · simp at h
        · simp at h
      · simp at h
    · intro st2 locs2 ha he
      simp only [A, astep] at h ⊢
      rw [he x (by simp [AOp.opds]), he i (by simp [AOp.opds])]
      split at h
      · split at h
        · rename_i h0
          rw [if_pos h0]
          simp only [Option.map_eq_some_iff, Option.bind_eq_some_iff] at h ⊢
          obtain ⟨⟨v1, h1, fp1⟩, ⟨el, hel, h2⟩, h3⟩ := h
          split at h2
          · rename_i hsz
            cases h2
            simp only [Prod.mk.injEq] at h3
            obtain ⟨rfl, rfl, rfl⟩ := h3
            exact ⟨_, ⟨el, hel, by rw [if_pos hsz]⟩, rfl⟩
          · cases h2
        · simp at h
      · split at h
        · rename_i h0
          rw [if_pos h0]
          simp only [Option.map_eq_some_iff, Option.bind_eq_some_iff] at h ⊢
          obtain ⟨⟨v1, h1, fp1⟩, ⟨el, hel, h2⟩, h3⟩ := h
          split at h2
          · rename_i hsz
            cases h2
            simp only [Prod.mk.injEq] at h3
            obtain ⟨rfl, rfl, rfl⟩ := h3
            exact ⟨_, ⟨el, hel, by rw [if_pos hsz]⟩, rfl⟩
          · cases h2
        · simp at h
      · rename_i id gen off len n hx hi
        split at h
        case h_2 => simp at h
        rename_i o ho
        split at h
        case isFalse => simp at h
        rename_i hcond
        simp only [Option.map_some, Option.some.injEq, Prod.mk.injEq] at h
        obtain ⟨rfl, rfl, rfl⟩ := h
        have hm := Heap.at_congr (ha.mem id (by simp [FP.read])) gen
        simp only [hm, ho]
        rw [if_pos hcond]; rfl
      · simp at h
  | append ty sz bytes x y =>
    intro st locs v st' fp h
    simp only [A, astep, Option.map_map, Option.map_eq_some_iff, Option.bind_eq_some_iff, Function.comp] at h
    obtain ⟨⟨v1, h1, fp1⟩, ⟨news, hnews, happ⟩, h⟩ := h
    simp only [Prod.mk.injEq] at h
    obtain ⟨rfl, rfl, rfl⟩ := h
    have hels : ∀ st2, Agree { fp1 with rd := rdOf (ev st locs y) ++ fp1.rd } st st2 → elsOf st2.heap (ev st locs y) = some news := fun st2 ha => by
      rw [elsOf_congr (fun id hid => ha.mem id (by simp [hid]))]; exact hnews
    have hmem : ∀ st2, Agree { fp1 with rd := rdOf (ev st locs y) ++ fp1.rd } st st2 → ∀ id, id ∈ fp1.rd ∨ id ∈ fp1.wr → st2.heap.mem.get id = st.heap.mem.get id := fun st2 ha id hid => ha.mem id (by rcases hid with h | h <;> simp [h])
    have fin : ∀ st2 locs2 h2', (∀ z ∈ (AOp.append ty sz bytes x y).opds, ev st2 locs2 z = ev st locs z) → elsOf st2.heap (ev st locs y) = some news → appendC st2.heap ty sz bytes (ev st locs x) news = some (v1, h2', fp1) →
        A (.append ty sz bytes x y) st2 locs2 = some (v1, { st2 with heap := h2' }, { fp1 with rd := rdOf (ev st locs y) ++ fp1.rd }) := by
      intro st2 locs2 h2' he h3 h4
      simp only [A, astep, he x (by simp [AOp.opds]), he y (by simp [AOp.opds]), h3, Option.bind_some, h4, Option.map_some]
    rcases appendC_loc happ with ⟨rfl, hc⟩ | ⟨id, o, hw, rfl, hc⟩ | ⟨els, hw, hnw, rfl, hc⟩
    · exact ⟨.none, rfl, Patch.none_in _ _, fun st2 locs2 ha he => fin st2 locs2 _ he (hels st2 ha) (hc st2.heap (hmem st2 ha))⟩
    · exact ⟨_, set_app _ _ _, in_set hw, fun st2 locs2 ha he => fin st2 locs2 _ he (hels st2 ha) (hc st2.heap (hmem st2 ha))⟩
    · refine ⟨_, new_app _ _ _ _, in_new hw hnw, fun st2 locs2 ha he => ?_⟩
      rw [← new_app2 (ha.nw hnw) (ha.mem _ (.inr hw))]
      exact fin st2 locs2 _ he (hels st2 ha) (hc st2.heap (ha.nw hnw) (hmem st2 ha))

end Go.AI

/- The same of steps on variables' boxes, of freezing, of calls that only read. -/
namespace Go.AI
open Go

theorem vstep_loc (op : AOp) : Loc (fun st locs => vstep st locs op) op.opds := by
  intro st locs v st' fp h
  have dflt : A op st locs = some (v, st', fp) → (∀ st2 locs2, (∀ x ∈ op.opds, ev st2 locs2 x = ev st locs x) → vstep st2 locs2 op = A op st2 locs2) →
      ∃ π : Patch, st' = π.app st ∧ π.In fp st ∧ ∀ st2 locs2, Agree fp st st2 → (∀ x ∈ op.opds, ev st2 locs2 x = ev st locs x) → vstep st2 locs2 op = some (v, π.app st2, fp) := by
    intro hA hv
    obtain ⟨π, h1, h2, h3⟩ := astep_loc op st locs v st' fp hA
    exact ⟨π, h1, h2, fun st2 locs2 ha he => by rw [hv st2 locs2 he]; exact h3 st2 locs2 ha he⟩
  cases op with
  | boxV s ty sz x =>
    simp only [vstep] at h
    split at h
    case h_2 => cases h
    rename_i cs hcs
    split at h
    case isFalse => cases h
    rename_i hl
    cases h
    refine ⟨.none, rfl, Patch.none_in _ _, fun st2 locs2 ha he => ?_⟩
    have hg := ha.vars s (by simp)
    simp only [vstep, he x (by simp [AOp.opds]), hcs, hl, if_true, hg]
    rfl
  | fieldAddr off x =>
    by_cases hvp : ∃ s g q, ev st locs x = .vp s g q
    · obtain ⟨s, g, q, hx⟩ := hvp
      simp only [vstep, hx] at h
      split at h
      case isFalse => cases h
      rename_i hnow
      cases h
      refine ⟨.none, rfl, Patch.none_in _ _, fun st2 locs2 ha he => ?_⟩
      have hg := ha.gen s g (by simp)
      simp only [vstep, he x (by simp [AOp.opds]), hx, hg, hnow, if_true]
      rfl
    · have hv : ∀ st2 locs2, ev st2 locs2 x = ev st locs x → vstep st2 locs2 (.fieldAddr off x) = A (.fieldAddr off x) st2 locs2 := by
        intro st2 locs2 he
        simp only [vstep]
        split
        · rename_i s g q hx; exact absurd ⟨s, g, q, he ▸ hx⟩ hvp
        · rfl
      exact dflt (by rw [← hv st locs rfl]; exact h) fun st2 locs2 he => hv st2 locs2 (he x (by simp [AOp.opds]))
  | nilCheck x =>
    by_cases hvp : ∃ s g q, ev st locs x = .vp s g q
    · obtain ⟨s, g, q, hx⟩ := hvp
      simp only [vstep, hx] at h
      split at h
      case isFalse => cases h
      rename_i hnow
      cases h
      refine ⟨.none, rfl, Patch.none_in _ _, fun st2 locs2 ha he => ?_⟩
      have hg := ha.gen s g (by simp)
      simp only [vstep, he x (by simp [AOp.opds]), hx, hg, hnow, if_true]
      rfl
    · have hv : ∀ st2 locs2, ev st2 locs2 x = ev st locs x → vstep st2 locs2 (.nilCheck x) = A (.nilCheck x) st2 locs2 := by
        intro st2 locs2 he
        simp only [vstep]
        split
        · rename_i s g q hx; exact absurd ⟨s, g, q, he ▸ hx⟩ hvp
        · rfl
      exact dflt (by rw [← hv st locs rfl]; exact h) fun st2 locs2 he => hv st2 locs2 (he x (by simp [AOp.opds]))
  | load n x =>
    by_cases hvp : ∃ s g q, ev st locs x = .vp s g q
    · obtain ⟨s, g, q, hx⟩ := hvp
      simp only [vstep, hx] at h
      split at h
      case h_2 => cases h
      rename_i g' cs hget
      split at h
      case isFalse => cases h
      rename_i hgg
      simp only [Option.map_eq_some_iff, Prod.mk.injEq] at h
      obtain ⟨u, hu, rfl, rfl, rfl⟩ := h
      refine ⟨.none, rfl, Patch.none_in _ _, fun st2 locs2 ha he => ?_⟩
      have hg := ha.vars s (by simp)
      simp only [vstep, he x (by simp [AOp.opds]), hx, hg, hget, hgg, if_true, hu, Option.map_some]
      rfl
    · have hv : ∀ st2 locs2, ev st2 locs2 x = ev st locs x → vstep st2 locs2 (.load n x) = A (.load n x) st2 locs2 := by
        intro st2 locs2 he
        simp only [vstep]
        split
        · rename_i s g q hx; exact absurd ⟨s, g, q, he ▸ hx⟩ hvp
        · rfl
      exact dflt (by rw [← hv st locs rfl]; exact h) fun st2 locs2 he => hv st2 locs2 (he x (by simp [AOp.opds]))
  | store n p x =>
    by_cases hvp : ∃ s g q, ev st locs p = .vp s g q
    · obtain ⟨s, g, q, hp⟩ := hvp
      simp only [vstep, hp] at h
      split at h
      case h_2 => cases h
      rename_i g' cs ds hget hds
      split at h
      case isFalse => cases h
      rename_i hcond
      cases h
      refine ⟨⟨[], 0, [(s, .box g (writeAt cs q ds))]⟩, rfl, ⟨by simp, by simp, by simp, by simp [isBox, genOf, hget, hcond.1]⟩, fun st2 locs2 ha he => ?_⟩
      have hg := ha.vars s (by simp)
      simp only [vstep, he p (by simp [AOp.opds]), he x (by simp [AOp.opds]), hp, hg, hget, hds]
      rw [if_pos hcond]
      rfl
    · have hv : ∀ st2 locs2, ev st2 locs2 p = ev st locs p → vstep st2 locs2 (.store n p x) = A (.store n p x) st2 locs2 := by
        intro st2 locs2 he
        simp only [vstep]
        split
        · rename_i s g q hx; exact absurd ⟨s, g, q, he ▸ hx⟩ hvp
        · rfl
      exact dflt (by rw [← hv st locs rfl]; exact h) fun st2 locs2 he => hv st2 locs2 (he p (by simp [AOp.opds]))
  | _ => exact dflt h fun st2 locs2 _ => rfl

/-! ### freezing -/
theorem mapM_transfer {α β : Type} {f g : α → Option β} : ∀ {l : List α} {r : List β}, l.mapM f = some r → (∀ (x : α) (y : β), y ∈ r → f x = some y → g x = some y) → l.mapM g = some r
  | [], r, h, _ => by simpa using h
  | a :: l, r, h, hg => by
    simp only [List.mapM_cons, Option.bind_eq_bind, Option.pure_def, Option.bind_eq_some_iff] at h ⊢
    obtain ⟨b, hb, s, hs, he⟩ := h
    cases he
    exact ⟨b, hg a b (by simp) hb, s, mapM_transfer hs fun x y hy => hg x y (by simp [hy]), rfl⟩

theorem frz_congr {h h2 : Heap} : ∀ (n : Nat) (c d : C) (ids : List Nat), frz h n c = some (d, ids) → (∀ id ∈ ids, h2.mem.get id = h.mem.get id) → frz h2 n c = some (d, ids) := by
  intro n
  induction n with
  | zero =>
    intro c d ids hf _
    cases c <;> simpa only [frz] using hf
  | succ n ih =>
    intro c d ids hf hid
    cases c with
    | sl id gen off len =>
      simp only [frz] at hf ⊢
      split at hf
      case h_2 => cases hf
      rename_i o ha
      split at hf
      case isFalse => cases hf
      rename_i hlen
      split at hf
      case h_2 => cases hf
      rename_i xs hxs
      cases hf
      rw [Heap.at_congr (hid id (by simp)), ha]
      simp only [hlen, if_true]
      have : ((o.els.drop off).take len).mapM (fun el => el.mapM (frz h2 n)) = some xs := by
        refine mapM_transfer hxs fun el xe hxe hm => mapM_transfer hm fun c p hp hc => ih c p.1 p.2 hc fun id' hid' => hid id' ?_
        exact List.mem_cons_of_mem _ (List.mem_flatMap.2 ⟨xe, hxe, List.mem_flatMap.2 ⟨p, hp, hid'⟩⟩)
      rw [this]
    | _ => simpa only [frz] using hf

theorem frzCells_congr {h h2 : Heap} {cs ds : List C} {ids : List Nat} (hf : frzCells h cs = some (ds, ids)) (hid : ∀ id ∈ ids, h2.mem.get id = h.mem.get id) : frzCells h2 cs = some (ds, ids) := by
  unfold frzCells at hf ⊢
  split at hf
  case h_2 => cases hf
  rename_i xs hxs
  cases hf
  have : cs.mapM (frz h2 frzDepth) = some xs := mapM_transfer hxs fun c p hp hc => frz_congr _ c p.1 p.2 hc fun id' hid' => hid id' (List.mem_flatMap.2 ⟨p, hp, hid'⟩)
  rw [this]

theorem frz1_congr {h h2 : Heap} {u d : V} {ids : List Nat} (hf : frz1 h u = some (d, ids)) (hid : ∀ id ∈ ids, h2.mem.get id = h.mem.get id) : frz1 h2 u = some (d, ids) := by
  cases u with
  | one c =>
    simp only [frz1, Option.map_eq_some_iff] at hf ⊢
    obtain ⟨p, hp, he⟩ := hf
    cases he
    exact ⟨p, frz_congr _ c p.1 p.2 hp hid, rfl⟩
  | agg cs =>
    simp only [frz1, Option.map_eq_some_iff] at hf ⊢
    obtain ⟨p, hp, he⟩ := hf
    cases he
    exact ⟨p, frzCells_congr hp hid, rfl⟩
  | lit els =>
    simp only [frz1] at hf ⊢
    split at hf
    case h_2 => cases hf
    rename_i xs hxs
    cases hf
    have : els.mapM (fun el => frzCells h2 el) = some xs := mapM_transfer hxs fun el p hp hc => frzCells_congr (ds := p.1) (ids := p.2) hc fun id' hid' => hid id' (List.mem_flatMap.2 ⟨p, hp, hid'⟩)
    rw [this]
  | _ => simp [frz1] at hf

theorem frzV_congr {h h2 : Heap} {u d : V} {ids : List Nat} (hf : frzV h u = some (d, ids)) (hid : ∀ id ∈ ids, h2.mem.get id = h.mem.get id) : frzV h2 u = some (d, ids) := by
  cases u with
  | tup vs =>
    simp only [frzV] at hf ⊢
    split at hf
    case h_2 => cases hf
    rename_i xs hxs
    cases hf
    have : vs.mapM (frz1 h2) = some xs := mapM_transfer hxs fun el p hp hc => frz1_congr (d := p.1) (ids := p.2) hc fun id' hid' => hid id' (List.mem_flatMap.2 ⟨p, hp, hid'⟩)
    rw [this]
  | undef => exact frz1_congr (h := h) (u := .undef) hf hid
  | one c => exact frz1_congr (h := h) (u := .one c) hf hid
  | agg cs => exact frz1_congr (h := h) (u := .agg cs) hf hid
  | lit els => exact frz1_congr (h := h) (u := .lit els) hf hid
  | box g cs => exact frz1_congr (h := h) (u := .box g cs) hf hid
  | vp s g q => exact frz1_congr (h := h) (u := .vp s g q) hf hid

theorem frzAll_congr {h h2 : Heap} : ∀ {us ds : List V} {ids : List Nat}, frzAll h us = some (ds, ids) → (∀ id ∈ ids, h2.mem.get id = h.mem.get id) → frzAll h2 us = some (ds, ids)
  | [], ds, ids, hf, _ => hf
  | u :: us, ds, ids, hf, hid => by
    simp only [frzAll] at hf ⊢
    split at hf
    case h_2 => cases hf
    rename_i x a xs b hx hxs
    cases hf
    rw [frzV_congr hx fun id' hid' => hid id' (by simp [hid']), frzAll_congr hxs fun id' hid' => hid id' (by simp [hid'])]

/-! ### giving up objects is a list of writes -/
def deads (m : Tr Obj) (ids : List Nat) : List (Nat × Obj) := ids.filterMap fun id => (m.get id).map fun o => (id, { o with live := false })

theorem deads_congr {m m2 : Tr Obj} {ids : List Nat} (h : ∀ id ∈ ids, m2.get id = m.get id) : deads m2 ids = deads m ids := by
  unfold deads
  induction ids with
  | nil => rfl
  | cons id r ih => simp only [List.filterMap_cons, h id (by simp), ih fun x hx => h x (by simp [hx])]

theorem deads_mem {m : Tr Obj} {ids : List Nat} {p : Nat × Obj} (h : p ∈ deads m ids) : p.1 ∈ ids := by
  unfold deads at h
  obtain ⟨id, hid, he⟩ := List.mem_filterMap.1 h
  simp only [Option.map_eq_some_iff] at he
  obtain ⟨o, _, rfl⟩ := he
  exact hid

theorem killAll_puts : ∀ (ids : List Nat) (h : Heap), h.killAll ids = { next := h.next, mem := puts h.mem (deads h.mem ids) }
  | [], h => rfl
  | id :: r, h => by
    simp only [Heap.killAll]
    rw [killAll_puts r]
    cases hm : h.mem.get id with
    | none =>
      have hk : h.kill id = h := by simp [Heap.kill, hm]
      rw [hk]
      simp [deads, hm]
    | some o =>
      have hk : h.kill id = h.set id { o with live := false } := by simp [Heap.kill, hm]
      rw [hk]
      have hd : deads (h.set id { o with live := false }).mem r = deads h.mem r := by
        unfold deads
        congr 1
        funext id'
        by_cases e : id' = id
        · subst e; simp [Heap.set, hm]
        · simp [Heap.set, Tr.get_put_ne _ _ e]
      rw [hd]
      have : deads h.mem (id :: r) = (id, { o with live := false }) :: deads h.mem r := by simp [deads, hm]
      rw [this]
      rfl

end Go.AI

/- Two statements that are free of each other may change places. -/
namespace Go.AI
open Go

variable {P : Program}

/-! ### writes, and the variables -/
theorem puts_append {α : Type} : ∀ (l k : List (Nat × α)) (t : Tr α), puts t (l ++ k) = puts (puts t l) k
  | [], k, t => rfl
  | (n, x) :: r, k, t => by simp only [List.cons_append, puts]; exact puts_append r k _

theorem puts_get_congr {α : Type} : ∀ (l : List (Nat × α)) (t t' : Tr α) (m : Nat), t.get m = t'.get m → (puts t l).get m = (puts t' l).get m
  | [], t, t', m, h => h
  | (n, x) :: r, t, t', m, h => by
    simp only [puts]
    refine puts_get_congr r _ _ m ?_
    rw [Tr.get_put_if, Tr.get_put_if]
    split
    · rfl
    · exact h

/-- boxes stay boxes, of the generation that they are of -/
theorem puts_soft : ∀ (l : List (Nat × V)) (t t0 : Tr V), (∀ s, genOf (t.get s) = genOf (t0.get s) ∧ varV s (t.get s) = varV s (t0.get s)) → (∀ p ∈ l, isBox (some p.2) = true ∧ genOf (t0.get p.1) = genOf (some p.2)) →
    ∀ s, genOf ((puts t l).get s) = genOf (t0.get s) ∧ varV s ((puts t l).get s) = varV s (t0.get s)
  | [], t, t0, h, _ => h
  | (n, x) :: r, t, t0, h, hl => by
    simp only [puts]
    refine puts_soft r _ t0 (fun s => ?_) (fun p hp => hl p (by simp [hp]))
    rw [Tr.get_put_if]
    split
    · rename_i e; subst e
      obtain ⟨h1, h2⟩ := hl (s, x) (by simp)
      simp only at h1 h2
      refine ⟨h2.symm, ?_⟩
      cases x with
      | box g cs =>
        cases hg : t0.get s with
        | none => rw [hg] at h2; simp [genOf] at h2
        | some u =>
          rw [hg] at h2
          cases u with
          | box g' cs' => simp only [genOf, Option.some.injEq] at h2; subst h2; rfl
          | _ => simp [genOf] at h2
      | _ => simp [isBox] at h1
    · exact h s

theorem now_gen (st : St) (s g : Nat) : st.now s g = (genOf (st.vars.get s) == some g) := by
  unfold St.now genOf
  split <;> simp_all

/-- a statement's result among the writes -/
def dstPut : Dst → V → List (Nat × V)
  | .var s, v => [(s, v)]
  | _, _ => []

def Patch.dst (π : Patch) (d : Dst) (v : V) : Patch := { π with vars := π.vars ++ dstPut d v }

theorem putDst_app (π : Patch) (st : St) (d : Dst) (v : V) : putDst (π.app st) d v = (π.dst d v).app st := by
  cases d with
  | var s => simp [putDst, Patch.dst, Patch.app, dstPut, puts_append, puts]
  | _ => simp [putDst, Patch.dst, Patch.app, dstPut]

theorem app_comm (π ρ : Patch) (st : St) (ho : ∀ p ∈ π.objs, ∀ q ∈ ρ.objs, p.1 ≠ q.1) (hv : ∀ p ∈ π.vars, ∀ q ∈ ρ.vars, p.1 ≠ q.1) : ρ.app (π.app st) = π.app (ρ.app st) := by
  simp only [Patch.app]
  rw [puts_comm π.vars ρ.vars _ hv, puts_comm π.objs ρ.objs _ ho, Nat.add_right_comm]

/-! ### what freedom says -/
structure Free (a b : FP) : Prop where
  wr : ∀ id ∈ a.wr, id ∉ b.rd ∧ id ∉ b.wr
  nw : ¬ (a.nw = true ∧ b.nw = true)
  wv : ∀ s ∈ a.wv, s ∉ b.rv ∧ s ∉ b.wv
  wg : ∀ s ∈ a.wg, s ∉ b.rg

theorem noneOf_spec {a b : List Nat} (h : noneOf a b = true) : ∀ x ∈ a, x ∉ b := fun x hx hb => by
  have := List.all_eq_true.1 h x hx
  simp at this; exact this hb

theorem free_spec {a b : FP} (h : a.free b = true) : Free a b ∧ Free b a ∧ (b.all = true → a.heapy = false) := by
  simp only [FP.free, Bool.and_eq_true, Bool.not_eq_true', Bool.and_eq_false_iff] at h
  obtain ⟨⟨⟨⟨⟨⟨⟨⟨⟨⟨h1, h2⟩, h3⟩, h4⟩, h5⟩, h6⟩, h7⟩, h8⟩, h9⟩, h10⟩, h11⟩ := h
  refine ⟨⟨fun id hid => ⟨noneOf_spec h1 id hid, noneOf_spec h2 id hid⟩, fun hh => ?_, fun s hs => ⟨noneOf_spec h7 s hs, noneOf_spec h8 s hs⟩, noneOf_spec h10⟩,
    ⟨fun id hid => ⟨noneOf_spec h3 id hid, fun hw => noneOf_spec h2 id hw hid⟩, fun hh => ?_, fun s hs => ⟨noneOf_spec h9 s hs, fun hw => noneOf_spec h8 s hw hs⟩, noneOf_spec h11⟩, fun hb => ?_⟩
  · rcases h4 with h | h
    · rw [hh.1] at h; cases h
    · rw [hh.2] at h; cases h
  · rcases h4 with h | h
    · rw [hh.2] at h; cases h
    · rw [hh.1] at h; cases h
  · rcases h6 with h | h
    · rw [hb] at h; cases h
    · exact h

theorem heapy_spec {a : FP} (h : a.heapy = false) : a.rd = [] ∧ a.wr = [] ∧ a.nw = false ∧ a.all = false := by
  simp only [FP.heapy, Bool.or_eq_false_iff, Bool.not_eq_false', List.isEmpty_iff] at h
  exact ⟨h.1.1.1, h.1.1.2, h.1.2, h.2⟩

theorem dst_fp (fp : FP) (d : Dst) : (fp.dst d).rd = fp.rd ∧ (fp.dst d).wr = fp.wr ∧ (fp.dst d).nw = fp.nw ∧ (fp.dst d).all = fp.all ∧ (fp.dst d).rv = fp.rv ∧ (fp.dst d).rg = fp.rg := by
  cases d <;> simp [FP.dst]
theorem dst_wv {fp : FP} {d : Dst} {s : Nat} (h : s ∈ fp.wv) : s ∈ (fp.dst d).wv := by cases d <;> simp [FP.dst, h]
theorem dst_wv_self {fp : FP} {s : Nat} : s ∈ (fp.dst (.var s)).wv ∧ s ∈ (fp.dst (.var s)).wg := by simp [FP.dst]

/-- what another's writes leave as it was -/
theorem agree_after {π : Patch} {fi fj : FP} {st : St} {d d' : Dst} {v : V} (hin : π.In fi st) (hf : Free (fi.dst d) (fj.dst d')) : Agree fj st ((π.dst d v).app st) := by
  obtain ⟨e1, e2, e3, e4, e5, e6⟩ := dst_fp fi d
  obtain ⟨k1, k2, k3, k4, k5, k6⟩ := dst_fp fj d'
  refine ⟨rfl, fun id hid => ?_, fun hn => ?_, fun s hs => ?_, fun s g hs => ?_⟩
  · refine puts_get _ _ _ fun p hp he => ?_
    have hw := hf.wr p.1 (by rw [e2]; exact hin.objs p hp)
    rw [k1, k2, he] at hw
    rcases hid with h | h
    · exact hw.1 h
    · exact hw.2 h
  · have : π.nw = 0 := by
      apply Classical.byContradiction
      intro h0
      exact hf.nw ⟨by rw [e3]; exact hin.nw h0, by rw [k3]; exact hn⟩
    simp [Patch.app, Patch.dst, this]
  · refine puts_get _ _ _ fun p hp he => ?_
    have key : s ∈ (fi.dst d).wv → False := fun hw => by
      have := hf.wv s hw
      rw [k5] at this
      rcases hs with h | h
      · exact this.1 h
      · exact this.2 (dst_wv h)
    simp only [Patch.dst, List.mem_append] at hp
    rcases hp with hp | hp
    · exact key (dst_wv (he ▸ hin.vars p hp))
    · cases d with
      | var s' =>
        simp only [dstPut, List.mem_singleton] at hp
        subst hp
        simp only at he; subst he
        exact key dst_wv_self.1
      | _ => simp [dstPut] at hp
  · rw [now_gen, now_gen]
    have h1 : genOf ((puts st.vars π.vars).get s) = genOf (st.vars.get s) := (puts_soft π.vars st.vars st.vars (fun _ => ⟨rfl, rfl⟩) hin.gens s).1
    have h2 : (puts st.vars (π.vars ++ dstPut d v)).get s = (puts st.vars π.vars).get s := by
      rw [puts_append]
      refine puts_get _ _ _ fun p hp he => ?_
      cases d with
      | var s' =>
        simp only [dstPut, List.mem_singleton] at hp
        subst hp
        simp only at he; subst he
        have := hf.wg s' dst_wv_self.2
        rw [k6] at this
        exact this hs
      | _ => simp [dstPut] at hp
    show (genOf ((puts st.vars (π.vars ++ dstPut d v)).get s) == some g) = _
    rw [h2, h1]

theorem ev_after {π : Patch} {fi : FP} {st : St} {locs : Tr V} {d : Dst} {v : V} {i : Nat} {x : Opd} (hin : π.In fi st) (hx : x.looks i d = false) : ev ((π.dst d v).app st) (locs.put i v) x = ev st locs x := by
  cases x with
  | loc k =>
    simp only [Opd.looks, beq_eq_false_iff_ne] at hx
    simp only [ev, Tr.get_put_ne _ _ hx]
  | var s =>
    have h1 : varV s ((puts st.vars π.vars).get s) = varV s (st.vars.get s) := (puts_soft π.vars st.vars st.vars (fun _ => ⟨rfl, rfl⟩) hin.gens s).2
    have h2 : (puts st.vars (π.vars ++ dstPut d v)).get s = (puts st.vars π.vars).get s := by
      rw [puts_append]
      refine puts_get _ _ _ fun p hp he => ?_
      cases d with
      | var s' =>
        simp only [dstPut, List.mem_singleton] at hp
        subst hp
        simp only at he; subst he
        simp [Opd.looks] at hx
      | _ => simp [dstPut] at hp
    show varV s ((puts st.vars (π.vars ++ dstPut d v)).get s) = varV s (st.vars.get s)
    rw [h2, h1]
  | _ => rfl

theorem okDst_congr {st1 st2 : St} {op : AOp} {d : Dst} {v : V} (h : ∀ s, d = .var s → st1.vars.get s = st2.vars.get s) : okDst st1 op d v = okDst st2 op d v := by
  have : dstFree st1 d = dstFree st2 d := by
    cases d with
    | var s => simp [dstFree, h s rfl]
    | _ => rfl
  cases v <;> simp [okDst, this]

/-- another's dst is not among the writes -/
theorem get_dst {π : Patch} {fi fj : FP} {st : St} {d d' : Dst} {v : V} {s : Nat} (hin : π.In fi st) (hf : Free (fi.dst d) (fj.dst d')) (hd : d' = .var s) : ((π.dst d v).app st).vars.get s = st.vars.get s := by
  subst hd
  refine puts_get _ _ _ fun p hp he => ?_
  have key : s ∈ (fi.dst d).wv → False := fun hw => (hf.wv s hw).2 dst_wv_self.1
  simp only [Patch.dst, List.mem_append] at hp
  rcases hp with hp | hp
  · exact key (dst_wv (he ▸ hin.vars p hp))
  · cases d with
    | var s' =>
      simp only [dstPut, List.mem_singleton] at hp
      subst hp
      simp only at he; subst he
      exact key dst_wv_self.1
    | _ => simp [dstPut] at hp

theorem dst_comm {π ρ : Patch} {fi fj : FP} {st st2 : St} {d d' : Dst} {v v' : V} {u : St} (hπ : π.In fi st) (hρ : ρ.In fj st2) (hf : Free (fi.dst d) (fj.dst d')) : (ρ.dst d' v').app ((π.dst d v).app u) = (π.dst d v).app ((ρ.dst d' v').app u) := by
  obtain ⟨e1, e2, e3, e4, e5, e6⟩ := dst_fp fi d
  obtain ⟨k1, k2, k3, k4, k5, k6⟩ := dst_fp fj d'
  have mem : ∀ {π : Patch} {f : FP} {st : St} {d : Dst} {v : V} (p : Nat × V), π.In f st → p ∈ (π.dst d v).vars → p.1 ∈ (f.dst d).wv := by
    intro π f st d v p hin hp
    simp only [Patch.dst, List.mem_append] at hp
    rcases hp with hp | hp
    · exact dst_wv (hin.vars p hp)
    · cases d with
      | var s' => simp only [dstPut, List.mem_singleton] at hp; subst hp; exact dst_wv_self.1
      | _ => simp [dstPut] at hp
  refine app_comm _ _ _ (fun p hp q hq he => ?_) (fun p hp q hq he => ?_)
  · have hw := hf.wr p.1 (by rw [e2]; exact hπ.objs p hp)
    rw [k2] at hw
    exact hw.2 (he ▸ hρ.objs q hq)
  · exact (hf.wv p.1 (mem p hπ hp)).2 (he ▸ mem q hρ hq)

end Go.AI

/- A region that draws its order does as in its own order. -/
namespace Go.AI
open Go

variable {P : Program}

/-- a statement that has one outcome -/
def Det (P : Program) (s : AStmt) (st : St) (locs : Tr V) (v : V) (st' : St) (fp : FP) : Prop :=
  (guardOk st locs s.guard = some false ∧ v = .tup [] ∧ st' = st ∧ fp = FP.no) ∨
  (guardOk st locs s.guard = some true ∧ (∀ f l b, s.op ≠ .call f l b) ∧ (∀ x l, s.op ≠ .callV x l) ∧ vstep st locs s.op = some (v, st', fp)) ∨
  (guardOk st locs s.guard = some true ∧ ∃ f l ds ids, s.op = .call f l false ∧ frzAll st.heap (l.map (ev st locs)) = some (ds, ids) ∧ PV P f ds v ∧ st' = killR v ids st ∧ fp = { FP.no with rd := ids, wr := if v.holds then ids else [] })

def HCall (s : AStmt) (st : St) (locs : Tr V) (f : FuncId) (vals : List V) : Prop :=
  guardOk st locs s.guard = some true ∧ ((∃ l, s.op = .call f l true ∧ vals = l.map (ev st locs)) ∨ (∃ x l caps, s.op = .callV x l ∧ ev st locs x = .one (.fn f caps) ∧ vals = l.map (ev st locs) ++ caps.map .one))

theorem HCall.isH {s : AStmt} {st : St} {locs : Tr V} {f : FuncId} {vals : List V} (h : HCall s st locs f vals) : s.op.isH = true := by
  rcases h.2 with ⟨l, h, _⟩ | ⟨x, l, caps, h, _⟩ <;> rw [h] <;> rfl

theorem astmt_out {s : AStmt} {i : Nat} {st : St} {locs : Tr V} {fps : Tr FP} {K : St → Tr V → Tr FP → Prop} (h : astmt P s i st locs fps K) :
    (∃ v st' fp, Det P s st locs v st' fp ∧ behind s i st' locs fps v fp K) ∨ (∃ f vals, HCall s st locs f vals ∧ callH P f vals s i st locs fps K) := by
  unfold astmt at h
  split at h
  · exact h.elim
  · rename_i hg
    exact .inl ⟨_, _, _, .inl ⟨hg, rfl, rfl, rfl⟩, h⟩
  · rename_i hg
    split at h
    · rename_i f l b hop
      cases b with
      | true => exact .inr ⟨f, _, ⟨hg, .inl ⟨l, hop, rfl⟩⟩, by simpa using h⟩
      | false =>
        simp only [Bool.false_eq_true, if_false] at h
        split at h
        · rename_i ds ids hf
          obtain ⟨r, hp, hb⟩ := h
          exact .inl ⟨r, _, _, .inr (.inr ⟨hg, f, l, ds, ids, hop, hf, hp, rfl, rfl⟩), hb⟩
        · exact h.elim
    · rename_i x l hop
      split at h
      · rename_i f caps hx
        exact .inr ⟨f, _, ⟨hg, .inr ⟨x, l, caps, hop, hx, rfl⟩⟩, h⟩
      · exact h.elim
    · rename_i h1 h2
      split at h
      · rename_i hs
        exact .inl ⟨_, _, _, .inr (.inl ⟨hg, by assumption, by assumption, hs⟩), h⟩
      · exact h.elim

theorem astmt_det {s : AStmt} {i : Nat} {st st' : St} {locs : Tr V} {fps : Tr FP} {v : V} {fp : FP} {K : St → Tr V → Tr FP → Prop} (hd : Det P s st locs v st' fp) (hb : behind s i st' locs fps v fp K) : astmt P s i st locs fps K := by
  unfold astmt
  rcases hd with ⟨hg, rfl, rfl, rfl⟩ | ⟨hg, h1, h2, hs⟩ | ⟨hg, f, l, ds, ids, hop, hf, hp, rfl, rfl⟩
  · rw [hg]; exact hb
  · rw [hg]
    cases hop : s.op with
    | call f l b => exact absurd hop (h1 f l b)
    | callV x l => exact absurd hop (h2 x l)
    | _ => rw [hop] at hs; simp only [hs]; exact hb
  · rw [hg]
    simp only [hop, Bool.false_eq_true, if_false, hf]
    exact ⟨v, hp, by simpa [behind, hop] using hb⟩

theorem astmt_hcall {s : AStmt} {i : Nat} {st : St} {locs : Tr V} {fps : Tr FP} {f : FuncId} {vals : List V} {K : St → Tr V → Tr FP → Prop} (hd : HCall s st locs f vals) (hb : callH P f vals s i st locs fps K) : astmt P s i st locs fps K := by
  unfold astmt
  obtain ⟨hg, ⟨l, hop, rfl⟩ | ⟨x, l, caps, hop, hx, rfl⟩⟩ := hd
  · rw [hg]; simp only [hop, if_true]; exact hb
  · rw [hg]; simp only [hop, hx]; exact hb

theorem behind_mono {s : AStmt} {i : Nat} {st : St} {locs : Tr V} {fps : Tr FP} {v : V} {fp : FP} {K K' : St → Tr V → Tr FP → Prop} (h : ∀ st' locs' fp, K st' locs' (fps.put i fp) → K' st' locs' (fps.put i fp)) (hb : behind s i st locs fps v fp K) : behind s i st locs fps v fp K' :=
  ⟨hb.1, hb.2.1, h _ _ _ hb.2.2⟩

theorem astmt_mono {s : AStmt} {i : Nat} {st : St} {locs : Tr V} {fps : Tr FP} {K K' : St → Tr V → Tr FP → Prop} (h : ∀ st' locs' fp, K st' locs' (fps.put i fp) → K' st' locs' (fps.put i fp)) (ha : astmt P s i st locs fps K) : astmt P s i st locs fps K' := by
  rcases astmt_out ha with ⟨v, st', fp, hd, hb⟩ | ⟨f, vals, hc, h1, rx, h2, hv⟩
  · exact astmt_det hd (behind_mono h hb)
  · exact astmt_hcall hc ⟨h1, rx, h2, hv.mono fun r h' hb => ⟨hb.1, hb.2.1, h _ _ _ hb.2.2⟩⟩

theorem guardOk_congr {st st2 : St} {locs locs2 : Tr V} {s : AStmt} (h : ∀ x ∈ s.opds, ev st2 locs2 x = ev st locs x) : guardOk st2 locs2 s.guard = guardOk st locs s.guard := by
  cases hg : s.guard with
  | none => rfl
  | some p =>
    obtain ⟨x, b⟩ := p
    have := h x (by simp [AStmt.opds, hg])
    simp only [guardOk, this]

theorem opds_op {s : AStmt} {x : Opd} (h : x ∈ s.op.opds) : x ∈ s.opds := by simp [AStmt.opds, h]

theorem map_ev_congr {st st2 : St} {locs locs2 : Tr V} {l : List Opd} (h : ∀ x ∈ l, ev st2 locs2 x = ev st locs x) : l.map (ev st2 locs2) = l.map (ev st locs) := List.map_congr_left h

theorem Det.loc {s : AStmt} {st st' : St} {locs : Tr V} {v : V} {fp : FP} (hd : Det P s st locs v st' fp) : ∃ π : Patch, st' = π.app st ∧ π.In fp st ∧
    ∀ st2 locs2, Agree fp st st2 → (∀ x ∈ s.opds, ev st2 locs2 x = ev st locs x) → Det P s st2 locs2 v (π.app st2) fp := by
  rcases hd with ⟨hg, rfl, rfl, rfl⟩ | ⟨hg, h1, h2, hs⟩ | ⟨hg, f, l, ds, ids, hop, hf, hp, rfl, rfl⟩
  · exact ⟨.none, rfl, Patch.none_in _ _, fun st2 locs2 _ he => .inl ⟨by rw [guardOk_congr he]; exact hg, rfl, rfl, rfl⟩⟩
  · obtain ⟨π, e1, e2, e3⟩ := vstep_loc s.op st locs v st' fp hs
    exact ⟨π, e1, e2, fun st2 locs2 ha he => .inr (.inl ⟨by rw [guardOk_congr he]; exact hg, h1, h2, e3 st2 locs2 ha fun x hx => he x (opds_op hx)⟩)⟩
  · have hargs : ∀ st2 locs2, (∀ x ∈ s.opds, ev st2 locs2 x = ev st locs x) → l.map (ev st2 locs2) = l.map (ev st locs) := fun st2 locs2 he => map_ev_congr fun x hx => he x (opds_op (by rw [hop]; exact hx))
    cases hh : v.holds with
    | false =>
      refine ⟨.none, by simp [killR, hh, Patch.none_app], Patch.none_in _ _, fun st2 locs2 ha he => .inr (.inr ⟨by rw [guardOk_congr he]; exact hg, f, l, ds, ids, hop, ?_, hp, by simp [killR, hh, Patch.none_app], by simp [hh]⟩)⟩
      rw [hargs st2 locs2 he]
      exact frzAll_congr hf fun id hid => ha.mem id (.inl hid)
    | true =>
      refine ⟨⟨deads st.heap.mem ids, 0, []⟩, by simp [killR, hh, killAll_puts, Patch.app, puts], ⟨fun p hp => by simpa using deads_mem hp, by simp, by simp, by simp⟩, fun st2 locs2 ha he => .inr (.inr ⟨by rw [guardOk_congr he]; exact hg, f, l, ds, ids, hop, ?_, hp, ?_, by simp [hh]⟩)⟩
      · rw [hargs st2 locs2 he]
        exact frzAll_congr hf fun id hid => ha.mem id (.inl hid)
      · have : deads st2.heap.mem ids = deads st.heap.mem ids := deads_congr fun id hid => ha.mem id (.inl hid)
        simp [killR, hh, killAll_puts, Patch.app, puts, this]

theorem fpOk_put {un : List Nat} {fps : Tr FP} {i : Nat} {g fp : FP} (hn : i ∉ un) : fpOk un (fps.put i g) fp = fpOk un fps fp := by
  unfold fpOk
  rw [Bool.eq_iff_iff, List.all_eq_true, List.all_eq_true]
  constructor
  · intro h k hk
    have := h k hk
    rwa [Tr.get_put_ne _ _ (fun e => hn (by subst e; exact hk))] at this
  · intro h k hk
    have := h k hk
    rwa [Tr.get_put_ne _ _ (fun e => hn (by subst e; exact hk))]

theorem fpOk_drop {un : List Nat} {fps : Tr FP} {i : Nat} {g fp : FP} (hg : fps.get i = none) (h : fpOk un (fps.put i g) fp = true) : fpOk un fps fp = true := by
  unfold fpOk at *
  rw [List.all_eq_true] at *
  intro k hk
  by_cases e : k = i
  · subst e; rw [hg]
  · have := h k hk
    rwa [Tr.get_put_ne _ _ e] at this

theorem fpOk_get {un : List Nat} {fps : Tr FP} {i : Nat} {g fp : FP} (hi : i ∈ un) (h : fpOk un (fps.put i g) fp = true) : g.free fp = true := by
  unfold fpOk at h
  have := List.all_eq_true.1 h i hi
  simpa using this

theorem chkK_put {rx : Bool} {un : List Nat} {fps : Tr FP} {i : Nat} {g fp : FP} {h : Heap} (hn : i ∉ un) : chkK rx un (fps.put i g) fp h = chkK rx un fps fp h := by
  unfold chkK
  rw [Bool.eq_iff_iff, List.all_eq_true, List.all_eq_true]
  constructor
  · intro hh k hk
    have hne : k ≠ i := by intro e; subst e; exact hn hk
    have := hh k hk
    rw [Tr.get_put_ne _ _ hne] at this
    exact this
  · intro hh k hk
    have hne : k ≠ i := by intro e; subst e; exact hn hk
    rw [Tr.get_put_ne _ _ hne]
    exact hh k hk
theorem chkK_drop {rx : Bool} {un : List Nat} {fps : Tr FP} {i : Nat} {g fp : FP} {h : Heap} (hg : fps.get i = none) (hc : chkK rx un (fps.put i g) fp h = true) : chkK rx un fps fp h = true := by
  unfold chkK at *
  refine List.all_eq_true.2 fun k hk => ?_
  by_cases e : k = i
  · subst e; rw [hg]
  · have := List.all_eq_true.1 hc k hk
    rw [Tr.get_put_ne _ _ e] at this
    exact this
theorem chkK_get {rx : Bool} {un : List Nat} {fps : Tr FP} {i : Nat} {g fp : FP} {h : Heap} (hi : i ∈ un) (hc : chkK rx un (fps.put i g) fp h = true) :
    ({ g with rd := if rx then [] else g.rd } : FP).free fp = true ∧ (rx = true → ∀ id ∈ g.rd, id < h.next) := by
  unfold chkK at hc
  have := List.all_eq_true.1 hc i hi
  rw [Tr.get_put] at this
  cases rx with
  | false => exact ⟨by simpa using this, fun h => by cases h⟩
  | true =>
    simp only [if_true, Bool.and_eq_true] at this
    exact ⟨by simpa using this.1, fun _ id hid => of_decide_eq_true (List.all_eq_true.1 this.2 id hid)⟩

theorem swapD {i j : Nat} {s t : AStmt} {st : St} {locs : Tr V} {fps : Tr FP} {K : St → Tr V → Tr FP → Prop} (hij : i ≠ j) (hap : apartA i s j t = true) (hun : i ∈ t.un) (hnu : j ∉ s.un) (hfi : fps.get i = none)
    {v : V} {st' : St} {fi : FP} (hd : Det P s st locs v st' fi) (hbeh : behind s i st' locs fps v fi fun st1 locs1 fps1 => astmt P t j st1 locs1 fps1 K) : astmt P t j st locs fps fun st1 locs1 fps1 => astmt P s i st1 locs1 fps1 K := by
  simp only [apartA, Bool.and_eq_true, Bool.not_eq_true'] at hap
  obtain ⟨⟨hbl1, hbl2⟩, _⟩ := hap
  have look1 : ∀ x ∈ t.opds, x.looks i s.dst = false := fun x hx => by
    have := List.all_eq_true.1 hbl1 x hx; simpa using this
  have look2 : ∀ x ∈ s.opds, x.looks j t.dst = false := fun x hx => by
    have := List.all_eq_true.1 hbl2 x hx; simpa using this
  obtain ⟨hok, hfp, hk⟩ := hbeh
  obtain ⟨π, rfl, hin, hloc⟩ := hd.loc
  rw [putDst_app] at hk
  have evt : ∀ x ∈ t.opds, ev ((π.dst s.dst v).app st) (locs.put i v) x = ev st locs x := fun x hx => ev_after hin (look1 x hx)
  rcases astmt_out hk with ⟨v', st'', fj, hd', hok', hfp', hk'⟩ | ⟨f, vals, hc, hpl, rx, hfp', hv⟩
  · have hfree := fpOk_get hun hfp'
    obtain ⟨F1, F2, _⟩ := free_spec hfree
    obtain ⟨ρ, rfl, hin', hloc'⟩ := hd'.loc
    -- the second at the first's state
    have ha : Agree fj ((π.dst s.dst v).app st) st := by
      have := agree_after (d' := t.dst) (v := v) hin F1
      exact ⟨this.base.symm, fun id hid => (this.mem id hid).symm, fun hn => (this.nw hn).symm, fun s hs => (this.vars s hs).symm, fun s g hs => (this.gen s g hs).symm⟩
    have hdj := hloc' st locs ha (fun x hx => (evt x hx).symm)
    obtain ⟨ρ2, hρe, hin2, hloc2⟩ := hdj.loc
    -- the writes are the same list
    have hinρ : ρ.In fj st := by
      refine ⟨hin'.objs, hin'.nw, hin'.vars, fun p hp => ?_⟩
      obtain ⟨g1, g2⟩ := hin'.gens p hp
      refine ⟨g1, ?_⟩
      rw [← g2]
      have := ha.vars p.1 (.inr (hin'.vars p hp))
      rw [this]
    refine astmt_det hdj ⟨?_, fpOk_drop hfi hfp', ?_⟩
    · rw [← hok']
      refine okDst_congr fun s' hs' => ?_
      refine puts_get_congr _ _ _ _ ?_
      exact (get_dst (v := v) hin F1 hs').symm
    · rw [putDst_app]
      have ha2 := agree_after (d := t.dst) (d' := s.dst) (v := v') hinρ F2
      have evs : ∀ x ∈ s.opds, ev ((ρ.dst t.dst v').app st) (locs.put j v') x = ev st locs x := fun x hx => ev_after hinρ (look2 x hx)
      refine astmt_det (hloc _ _ ha2 evs) ⟨?_, by rw [fpOk_put hnu]; exact hfp, ?_⟩
      · rw [← hok]
        refine okDst_congr fun s' hs' => ?_
        exact puts_get_congr _ _ _ _ (get_dst (v := v') hinρ F2 hs')
      · rw [putDst_app, ← dst_comm (v := v) (v' := v') (u := st) hin hinρ F1, Tr.put_comm locs v' v (Ne.symm hij), Tr.put_comm fps _ _ (Ne.symm hij)]
        rw [putDst_app] at hk'
        exact hk'
  · obtain ⟨hfree0, hexi⟩ := chkK_get hun hfp'
    obtain ⟨e1, e2, e3, e4, e5, e6⟩ := dst_fp fi s.dst
    have hfd : ({ fi.dst s.dst with rd := if rx then [] else (fi.dst s.dst).rd } : FP) = ({ fi with rd := if rx then [] else fi.rd } : FP).dst s.dst := by cases s.dst <;> rfl
    rw [hfd] at hfree0
    rw [e1] at hexi
    have hfree := hfree0
    generalize hf2 : ({ fi with rd := if rx then [] else fi.rd } : FP) = f2 at hfree
    have w1 : f2.wr = fi.wr := by rw [← hf2]
    have w2 : f2.nw = fi.nw := by rw [← hf2]
    have w3 : f2.rv = fi.rv := by rw [← hf2]
    have w4 : f2.wv = fi.wv := by rw [← hf2]
    have w5 : f2.rg = fi.rg := by rw [← hf2]
    have w6 : f2.rd = if rx then [] else fi.rd := by rw [← hf2]
    obtain ⟨F1, F2, hall⟩ := free_spec hfree
    have hnh := hall (by cases t.dst <;> rfl)
    obtain ⟨r1, r2, r3, r4⟩ := heapy_spec hnh
    obtain ⟨e1, e2, e3, e4, e5, e6⟩ := dst_fp f2 s.dst
    rw [e1] at r1; rw [e2, w1] at r2; rw [e3, w2] at r3
    have hin1 : π.In f2 st := ⟨fun p hp => w1 ▸ hin.objs p hp, fun h => w2 ▸ hin.nw h, fun p hp => w4 ▸ hin.vars p hp, hin.gens⟩
    have hobj : π.objs = [] := List.eq_nil_iff_forall_not_mem.2 fun p hp => by have := hin.objs p hp; rw [r2] at this; simp at this
    have hnw : π.nw = 0 := by
      apply Classical.byContradiction
      intro h0; have := hin.nw h0; rw [r3] at this; cases this
    have hheap : ((π.dst s.dst v).app st).heap = st.heap := by simp [Patch.app, Patch.dst, hobj, hnw, puts]
    rw [hheap] at hfp' hexi hv
    have hrd : ∀ h' : Heap, (rx = true → KeepAll st.heap h') → ∀ id ∈ fi.rd, h'.mem.get id = st.heap.mem.get id := by
      intro h' hk id hid
      cases rx with
      | false => rw [w6] at r1; simp at r1; rw [r1] at hid; cases hid
      | true => exact hk rfl id (hexi rfl id hid)
    have hc' : HCall t st locs f vals := by
      obtain ⟨hg, h1⟩ := hc
      refine ⟨by rw [← guardOk_congr evt]; exact hg, ?_⟩
      rcases h1 with ⟨l, hop, rfl⟩ | ⟨x, l, caps, hop, hx, rfl⟩
      · exact .inl ⟨l, hop, map_ev_congr fun x hx => evt x (opds_op (by rw [hop]; exact hx))⟩
      · refine .inr ⟨x, l, caps, hop, by rw [← evt x (opds_op (by rw [hop]; simp [AOp.opds]))]; exact hx, ?_⟩
        rw [map_ev_congr fun y hy => evt y (opds_op (by rw [hop]; simp [AOp.opds, hy]))]
    refine astmt_hcall hc' ⟨hpl, rx, chkK_drop hfi hfp', ?_⟩
    refine hv.mono fun r h' ⟨hkp, hokr, hkr⟩ => ⟨hkp, ?_⟩
    -- the call's own writes: its heap, and its destination
    have hin0 : Patch.none.In { FP.no with all := true } st := Patch.none_in _ _
    have hget : ∀ s', t.dst = .var s' → ((π.dst s.dst v).app st).vars.get s' = st.vars.get s' := fun s' hs' => get_dst (v := v) hin1 F1 hs'
    refine ⟨?_, ?_⟩
    · rw [← hokr]
      exact okDst_congr fun s' hs' => (hget s' hs').symm
    · have hst2 : putDst { st with heap := h' } t.dst r = (Patch.none.dst t.dst r).app { st with heap := h' } := putDst_app .none { st with heap := h' } t.dst r
      rw [hst2]
      have hinh : π.In f2 { st with heap := h' } := ⟨hin1.objs, hin1.nw, hin1.vars, hin1.gens⟩
      have ha1 := agree_after (st := { st with heap := h' }) (d := t.dst) (d' := s.dst) (v := r) (Patch.none_in ({ FP.no with all := true }) _) F2
      have ha2 : Agree fi st ((Patch.none.dst t.dst r).app { st with heap := h' }) := ⟨rfl, fun id hid => (by rcases hid with hid | hid; exact hrd h' hkp id hid; rw [r2] at hid; cases hid), fun hn => (by rw [r3] at hn; cases hn), fun s hs => ha1.vars s (by rw [w3, w4]; exact hs), fun s g hs => ha1.gen s g (by rw [w5]; exact hs)⟩
      have evs : ∀ x ∈ s.opds, ev ((Patch.none.dst t.dst r).app { st with heap := h' }) (locs.put j r) x = ev st locs x := fun x hx => by
        rw [ev_after (Patch.none_in ({ FP.no with all := true }) _) (look2 x hx)]
        cases x <;> rfl
      refine astmt_det (hloc _ _ ha2 evs) ⟨?_, by rw [fpOk_put hnu]; exact hfp, ?_⟩
      · rw [← hok]
        refine okDst_congr fun s' hs' => ?_
        exact puts_get_congr _ _ _ _ (get_dst (st := { st with heap := h' }) (v := r) (Patch.none_in ({ FP.no with all := true }) _) F2 hs')
      · rw [putDst_app]
        have hcomm := dst_comm (v := v) (v' := r) (u := { st with heap := h' }) hinh (Patch.none_in ({ FP.no with all := true }) st) F1
        rw [← hcomm, Tr.put_comm locs r v (Ne.symm hij), Tr.put_comm fps _ _ (Ne.symm hij)]
        have hst3 : putDst { (π.dst s.dst v).app st with heap := h' } t.dst r = (Patch.none.dst t.dst r).app ((π.dst s.dst v).app { st with heap := h' }) := by
          have e0 : ({ (π.dst s.dst v).app st with heap := h' } : St) = (π.dst s.dst v).app { st with heap := h' } := by simp [Patch.app, Patch.dst, hobj, hnw, puts]
          rw [e0]
          exact putDst_app .none ((π.dst s.dst v).app { st with heap := h' }) t.dst r
        rw [← hst3]
        exact hkr

theorem swap {i j : Nat} {s t : AStmt} {st : St} {locs : Tr V} {fps : Tr FP} {K : St → Tr V → Tr FP → Prop} (hij : i ≠ j) (hap : apartA i s j t = true) (hs : s.op.isH = false) (hun : i ∈ t.un) (hnu : j ∉ s.un) (hfi : fps.get i = none)
    (h : astmt P s i st locs fps fun st1 locs1 fps1 => astmt P t j st1 locs1 fps1 K) : astmt P t j st locs fps fun st1 locs1 fps1 => astmt P s i st1 locs1 fps1 K := by
  rcases astmt_out h with ⟨v, st', fi, hd, hb⟩ | ⟨f, vals, hc, _⟩
  · exact swapD hij hap hun hnu hfi hd hb
  · rw [hc.isH] at hs; cases hs

theorem easy_spec {t : AStmt} (h : t.easy = true) : t.guard = none ∧ (∀ f l b, t.op ≠ .call f l b) ∧ ∀ x l, t.op ≠ .callV x l := by
  simp only [AStmt.easy, Bool.and_eq_true, Option.isNone_iff_eq_none] at h
  refine ⟨h.1, fun f l b hop => ?_, fun x l hop => ?_⟩
  · rw [hop] at h; exact absurd h.2 (by simp)
  · rw [hop] at h; exact absurd h.2 (by simp)

theorem easy_out {t : AStmt} (he : t.easy = true) {i : Nat} {st : St} {locs : Tr V} {fps : Tr FP} {K : St → Tr V → Tr FP → Prop} (h : astmt P t i st locs fps K) :
    ∃ v st' fp, vstep st locs t.op = some (v, st', fp) ∧ Det P t st locs v st' fp ∧ behind t i st' locs fps v fp K := by
  obtain ⟨h1, h2, h3⟩ := easy_spec he
  rcases astmt_out h with ⟨v, st', fp, hd, hb⟩ | ⟨f, vals, hc, _⟩
  · rcases hd with ⟨hg, _⟩ | hd | ⟨_, f, l, ds, ids, hop, _⟩
    · rw [h1] at hg; cases hg
    · exact ⟨v, st', fp, hd.2.2.2, .inr (.inl hd), hb⟩
    · exact absurd hop (h2 f l false)
  · rcases hc.2 with ⟨l, hop, _⟩ | ⟨x, l, caps, hop, _⟩
    · exact absurd hop (h2 _ _ _)
    · exact absurd hop (h3 _ _)

/-- a call over the heap, and behind it an operation that calls nothing: the operation first -/
theorem swapH {i j : Nat} {s t : AStmt} {st : St} {locs : Tr V} {fps : Tr FP} {K : St → Tr V → Tr FP → Prop} (hij : i ≠ j) (hap : apartA i s j t = true) (hs : s.op.isH = true) (he : t.easy = true) (hun : i ∈ t.un) (hnu : j ∉ s.un) (hfi : fps.get i = none)
    (f : FuncId) (vals : List V) (hc : HCall s st locs f vals)
    (h : callH P f vals s i st locs fps fun st1 locs1 fps1 => astmt P t j st1 locs1 fps1 K) : astmt P t j st locs fps fun st1 locs1 fps1 => astmt P s i st1 locs1 fps1 K := by
  simp only [apartA, Bool.and_eq_true, Bool.not_eq_true'] at hap
  obtain ⟨⟨hbl1, hbl2⟩, _⟩ := hap
  have look1 : ∀ x ∈ t.opds, x.looks i s.dst = false := fun x hx => by
    have := List.all_eq_true.1 hbl1 x hx; simpa using this
  have look2 : ∀ x ∈ s.opds, x.looks j t.dst = false := fun x hx => by
    have := List.all_eq_true.1 hbl2 x hx; simpa using this
  obtain ⟨hpl, rx, hfp, hv⟩ := h
  obtain ⟨r0, h0, _, hok0, hk0⟩ := hv.1
  have evA : ∀ (r : V) (h' : Heap), ∀ x ∈ t.opds, ev (putDst { st with heap := h' } s.dst r) (locs.put i r) x = ev st locs x := fun r h' x hx => by
    have e0 : putDst { st with heap := h' } s.dst r = (Patch.none.dst s.dst r).app { st with heap := h' } := putDst_app .none { st with heap := h' } s.dst r
    rw [e0, ev_after (Patch.none_in ({ FP.no with all := true }) _) (look1 x hx)]
    cases x <;> rfl
  obtain ⟨v, st', fj, hvs, hd, hok', hfp', hk'⟩ := easy_out he hk0
  have hfree := fpOk_get hun hfp'
  obtain ⟨F1, F2, _⟩ := free_spec hfree
  have hnh : (fj.dst t.dst).heapy = false := by
    have h1 := hfree
    unfold FP.free at h1
    simp only [Bool.and_eq_true, Bool.not_eq_true'] at h1
    have h5 := h1.1.1.1.1.1.1.2
    have ha : (({ FP.no with all := true } : FP).dst s.dst).all = true := by cases s.dst <;> rfl
    rw [ha, Bool.true_and] at h5
    exact h5
  obtain ⟨r1, r2, r3, r4⟩ := heapy_spec hnh
  obtain ⟨e1, e2, e3, e4, e5, e6⟩ := dst_fp fj t.dst
  rw [e1] at r1; rw [e2] at r2; rw [e3] at r3
  obtain ⟨π, rfl, hin, hloc⟩ := vstep_loc t.op _ _ v st' fj hvs
  have hobj : π.objs = [] := List.eq_nil_iff_forall_not_mem.2 fun p hp => by have := hin.objs p hp; rw [r2] at this; simp at this
  have hnw : π.nw = 0 := by
    apply Classical.byContradiction
    intro h0; have := hin.nw h0; rw [r3] at this; cases this
  have hap0 : ∀ (r : V) (h' : Heap), putDst { st with heap := h' } s.dst r = (Patch.none.dst s.dst r).app { st with heap := h' } := fun r h' => putDst_app .none { st with heap := h' } s.dst r
  have agr : ∀ (r : V) (h' : Heap), Agree fj st (putDst { st with heap := h' } s.dst r) := fun r h' => by
    rw [hap0]
    have ha1 := agree_after (st := { st with heap := h' }) (d := s.dst) (d' := t.dst) (v := r) (Patch.none_in ({ FP.no with all := true }) _) F1
    exact ⟨rfl, fun id hid => (by rw [r1, r2] at hid; simp at hid), fun hn => (by rw [r3] at hn; cases hn), fun s hs => ha1.vars s hs, fun s g hs => ha1.gen s g hs⟩
  have sym : ∀ {a b : St}, Agree fj a b → Agree fj b a := fun h => ⟨h.base.symm, fun id hid => (h.mem id hid).symm, fun hn => (h.nw hn).symm, fun s hs => (h.vars s hs).symm, fun s g hs => (h.gen s g hs).symm⟩
  have tr : ∀ {a b c : St}, Agree fj a b → Agree fj b c → Agree fj a c := fun h k => ⟨k.base.trans h.base, fun id hid => (k.mem id hid).trans (h.mem id hid), fun hn => (k.nw hn).trans (h.nw hn), fun s hs => (k.vars s hs).trans (h.vars s hs), fun s g hs => (k.gen s g hs).trans (h.gen s g hs)⟩
  have hv1 : vstep st locs t.op = some (v, π.app st, fj) := hloc st locs (sym (agr r0 h0)) fun x hx => (evA r0 h0 x (opds_op hx)).symm
  have hv2 : ∀ (r : V) (h' : Heap), vstep (putDst { st with heap := h' } s.dst r) (locs.put i r) t.op = some (v, π.app (putDst { st with heap := h' } s.dst r), fj) := fun r h' =>
    hloc _ _ (tr (sym (agr r0 h0)) (agr r h')) fun x hx => (evA r h' x (opds_op hx)).trans (evA r0 h0 x (opds_op hx)).symm
  obtain ⟨g1, g2, g3⟩ := easy_spec he
  have hdj : Det P t st locs v (π.app st) fj := .inr (.inl ⟨by rw [g1]; rfl, g2, g3, hv1⟩)
  have hinst : π.In fj st := by
    refine ⟨hin.objs, hin.nw, hin.vars, fun p hp => ?_⟩
    obtain ⟨q1, q2⟩ := hin.gens p hp
    refine ⟨q1, ?_⟩
    rw [← q2]
    have := (agr r0 h0).vars p.1 (.inr (hin.vars p hp))
    rw [this]
  have hinh : ∀ h', π.In fj { st with heap := h' } := fun h' => ⟨hinst.objs, hinst.nw, hinst.vars, hinst.gens⟩
  have getA : ∀ (r : V) (h' : Heap) (s' : Nat), t.dst = .var s' → (putDst { st with heap := h' } s.dst r).vars.get s' = st.vars.get s' := fun r h' s' hs' => by
    rw [hap0]; exact get_dst (st := { st with heap := h' }) (v := r) (Patch.none_in ({ FP.no with all := true }) _) F1 hs'
  have hheap : ((π.dst t.dst v).app st).heap = st.heap := by simp [Patch.app, Patch.dst, hobj, hnw, puts]
  refine astmt_det hdj ⟨?_, fpOk_drop hfi hfp', ?_⟩
  · rw [← hok']
    refine okDst_congr fun s' hs' => ?_
    exact puts_get_congr _ _ _ _ (getA r0 h0 s' hs').symm
  · rw [putDst_app]
    have evs : ∀ x ∈ s.opds, ev ((π.dst t.dst v).app st) (locs.put j v) x = ev st locs x := fun x hx => ev_after hinst (look2 x hx)
    have hc' : HCall s ((π.dst t.dst v).app st) (locs.put j v) f vals := by
      obtain ⟨hg, h1⟩ := hc
      refine ⟨by rw [guardOk_congr evs]; exact hg, ?_⟩
      rcases h1 with ⟨l, hop, rfl⟩ | ⟨x, l, caps, hop, hx, rfl⟩
      · exact .inl ⟨l, hop, (map_ev_congr fun x hx => evs x (opds_op (by rw [hop]; exact hx))).symm⟩
      · refine .inr ⟨x, l, caps, hop, by rw [evs x (opds_op (by rw [hop]; simp [AOp.opds]))]; exact hx, ?_⟩
        rw [map_ev_congr fun y hy => evs y (opds_op (by rw [hop]; simp [AOp.opds, hy]))]
    refine astmt_hcall hc' ⟨hpl, rx, by rw [chkK_put hnu, hheap]; exact hfp, ?_⟩
    rw [hheap]
    refine hv.mono fun r h' ⟨hkp, hokr, hkr⟩ => ⟨hkp, ?_⟩
    obtain ⟨v2, st2, f2, hvv, _, hb2⟩ := easy_out he hkr
    rw [hv2 r h'] at hvv
    cases hvv
    obtain ⟨_, _, hK⟩ := hb2
    refine ⟨?_, ?_⟩
    · rw [← hokr]
      refine okDst_congr fun s' hs' => ?_
      exact get_dst (st := st) (v := v) hinst F2 hs'
    · have e0 : ({ (π.dst t.dst v).app st with heap := h' } : St) = (π.dst t.dst v).app { st with heap := h' } := by simp [Patch.app, Patch.dst, hobj, hnw, puts]
      have e9 : putDst ((π.dst t.dst v).app { st with heap := h' }) s.dst r = (Patch.none.dst s.dst r).app ((π.dst t.dst v).app { st with heap := h' }) := putDst_app .none ((π.dst t.dst v).app { st with heap := h' }) s.dst r
      rw [e0, e9]
      have hcomm := dst_comm (v := r) (v' := v) (u := { st with heap := h' }) (Patch.none_in ({ FP.no with all := true }) st) hinst F1
      rw [← hcomm, Tr.put_comm locs v r (Ne.symm hij), Tr.put_comm fps _ _ (Ne.symm hij)]
      rw [putDst_app, hap0] at hK
      exact hK

end Go.AI

/- Whatever order a region draws. -/
namespace Go.AI
open Go

variable {P : Program} {ops : Array Oper} {l : List AStmt} {b : Array Nat} {K : St → Prop}

def aAny (P : Program) (ops : Array Oper) (l : List AStmt) (K : St → Prop) : Nat → Array Bool → St → Tr V → Tr FP → Prop
  | 0, listed, st, _, _ => Region.ready .any ops listed = [] ∧ K st
  | n + 1, listed, st, locs, fps => (Region.ready .any ops listed = [] → K st) ∧ ∀ i ∈ Region.ready .any ops listed, ∀ s, l[i]? = some s → astmt P s i st locs fps (aAny P ops l K n (listed.setIfInBounds i true))

def Closed (ops : Array Oper) (listed : Array Bool) : Prop :=
  ∀ j oj, ops[j]? = some oj → listed.getD j false = true → ∀ e ∈ oj.after, Region.binds .any e = true → listed.getD e.on false = true

theorem Closed.set {listed : Array Bool} {i : Nat} (h : Closed ops listed) (hi : i ∈ Region.ready .any ops listed) : Closed ops (listed.setIfInBounds i true) := by
  obtain ⟨_, oi, hoi, hall⟩ := mem_ready.1 hi
  intro j oj hj hl e he hb
  by_cases hij : i = j
  · subst hij
    have : oj = oi := Option.some.inj (hj.symm.trans hoi)
    subst this
    exact getD_set_true (hall e he hb)
  · rw [getD_set_ne false hij] at hl
    exact getD_set_true (h j oj hj hl e he hb)

theorem cert_step (hc : certOk ops b = true) {j k : Nat} (hkj : k < j) (hb : bit b j k = true) (hj : j < ops.size) : ∃ o, ops[j]? = some o ∧ ∃ e ∈ o.after, Region.binds .any e = true ∧ e.on < j ∧ (e.on = k ∨ (k < e.on ∧ bit b e.on k = true)) := by
  have h1 := List.all_eq_true.1 hc j (List.mem_range.2 hj)
  have h2 := List.all_eq_true.1 h1 k (List.mem_range.2 hkj)
  simp only [hb, Bool.not_true, Bool.false_or] at h2
  cases ho : ops[j]? with
  | none => rw [ho] at h2; cases h2
  | some o =>
    rw [ho] at h2
    obtain ⟨e, he, h3⟩ := Array.any_eq_true'.1 h2
    simp only [Bool.and_eq_true, decide_eq_true_eq, Bool.or_eq_true, beq_iff_eq] at h3
    exact ⟨o, rfl, e, he, h3.1.1, h3.1.2, h3.2⟩

theorem cert_listed (hc : certOk ops b = true) {listed : Array Bool} (hcl : Closed ops listed) : ∀ (j k : Nat), k < j → j < ops.size → bit b j k = true → listed.getD j false = true → listed.getD k false = true := by
  intro j
  induction j using Nat.strongRecOn with
  | _ j ih =>
    intro k hkj hj hb hl
    obtain ⟨o, ho, e, he, hbi, hlt, h⟩ := cert_step hc hkj hb hj
    have hle := hcl j o ho hl e he hbi
    rcases h with h | ⟨hk, h⟩
    · exact h ▸ hle
    · exact ih e.on hlt k hk (by omega) h hle

/-- what waits for an operation that has not come up is not ready -/
theorem cert_ready (hc : certOk ops b = true) {listed : Array Bool} (hcl : Closed ops listed) {j k : Nat} (hkj : k < j) (hb : bit b j k = true) (hr : j ∈ Region.ready .any ops listed) : listed.getD k false = true := by
  obtain ⟨_, o, ho, hall⟩ := mem_ready.1 hr
  have hj : j < ops.size := (Array.getElem?_eq_some_iff.1 ho).1
  obtain ⟨o', ho', e, he, hbi, hlt, h⟩ := cert_step hc hkj hb hj
  rw [ho] at ho'; cases ho'
  have hle := hall e he hbi
  rcases h with h | ⟨hk, h⟩
  · exact h ▸ hle
  · exact cert_listed hc hcl e.on k hk (by omega) h hle

theorem unlisted_false {listed : Array Bool} {i : Nat} (h : listed.getD i true = false) : listed.getD i false = false := by
  rcases Nat.lt_or_ge i listed.size with h' | h'
  · simp [h'] at h ⊢; exact h
  · simp [Array.getElem?_eq_none h'] at h

/-- what is asked of the statement that is taken first -/
def Firsts (l : List AStmt) (b : Array Nat) (i : Nat) (listed : Array Bool) : Prop :=
  ∀ j t, l[j]? = some t → j ≠ i → listed.getD j true = false → i < j ∧ (bit b j i = true ∨ (i ∈ t.un ∧ j ∉ (l[i]?.map (·.un)).getD [] ∧ ∀ s, l[i]? = some s → apartA i s j t = true ∧ (s.op.isH = false ∨ t.easy = true)))

theorem bubble (hc : certOk ops b = true) {i : Nat} {s : AStmt} (hs : l[i]? = some s) : ∀ (n : Nat) (listed : Array Bool) (st : St) (locs : Tr V) (fps : Tr FP), Closed ops listed → Firsts l b i listed → i ∈ Region.ready .any ops listed → fps.get i = none →
    astmt P s i st locs fps (aAny P ops l K n (listed.setIfInBounds i true)) → aAny P ops l K (n + 1) listed st locs fps := by
  intro n
  induction n with
  | zero =>
    intro listed st locs fps hcl hf hr hfi H
    refine ⟨fun h => (by rw [h] at hr; cases hr), fun j hj t ht => ?_⟩
    by_cases hji : j = i
    · subst hji; rw [hs] at ht; cases ht; exact H
    · exfalso
      obtain ⟨hlt, hbit | ⟨hun, hnu, hap⟩⟩ := hf j t ht hji (mem_ready.1 hj).1
      · have h1 := cert_ready hc hcl hlt hbit hj
        have h0 := unlisted_false (mem_ready.1 hr).1
        rw [h0] at h1; cases h1
      · obtain ⟨_, hh⟩ := hap s hs
        rcases astmt_out H with ⟨v, st', fp, _, _, _, hk⟩ | ⟨f, vals, hcall, _⟩
        · have := ready_mono hj hji
          rw [hk.1] at this; cases this
        · rename_i hcc
          obtain ⟨_, _, _, ⟨r, h', _, hb⟩, _⟩ := hcc
          have := ready_mono hj hji
          rw [hb.2.1] at this; cases this
  | succ n ih =>
    intro listed st locs fps hcl hf hr hfi H
    refine ⟨fun h => (by rw [h] at hr; cases hr), fun j hj t ht => ?_⟩
    by_cases hji : j = i
    · subst hji; rw [hs] at ht; cases ht; exact H
    · obtain ⟨hlt, hbit | ⟨hun, hnu, hap⟩⟩ := hf j t ht hji (mem_ready.1 hj).1
      · exfalso
        have h1 := cert_ready hc hcl hlt hbit hj
        have h0 := unlisted_false (mem_ready.1 hr).1
        rw [h0] at h1; cases h1
      · obtain ⟨hapt, hh⟩ := hap s hs
        have hnu' : j ∉ s.un := by rw [hs] at hnu; exact hnu
        have H1 : astmt P s i st locs fps fun st1 locs1 fps1 => astmt P t j st1 locs1 fps1 (aAny P ops l K n ((listed.setIfInBounds i true).setIfInBounds j true)) :=
          astmt_mono (fun st' locs' fp h => h.2 j (ready_mono hj hji) t ht) H
        have H2 : astmt P t j st locs fps fun st1 locs1 fps1 => astmt P s i st1 locs1 fps1 (aAny P ops l K n ((listed.setIfInBounds i true).setIfInBounds j true)) := by
          cases hH : s.op.isH with
          | false => exact swap (Ne.symm hji) hapt hH hun hnu' hfi H1
          | true =>
            have he : t.easy = true := by
              rcases hh with hh | hh
              · rw [hH] at hh; cases hh
              · exact hh
            rcases astmt_out H1 with ⟨v, st', fp, hd, hb⟩ | ⟨f, vals, hcall, hcc⟩
            · exact swapD (Ne.symm hji) hapt hun hnu' hfi hd hb
            · exact swapH (Ne.symm hji) hapt hH he hun hnu' hfi f vals hcall hcc
        refine astmt_mono (fun st' locs' fp h => ?_) H2
        refine ih (listed.setIfInBounds j true) st' locs' _ (hcl.set hj) (fun k u hk hki hun => ?_) (ready_mono hr (Ne.symm hji)) (by rw [Tr.get_put_ne _ _ (Ne.symm hji)]; exact hfi) ?_
        · refine hf k u hk hki ?_
          by_cases hjk : j = k
          · subst hjk; exact (mem_ready.1 hj).1
          · rw [getD_set_ne true hjk] at hun; exact hun
        · rw [Array.setIfInBounds_comm _ _ hji]
          exact h

theorem orderOk_spec (h : orderOk ops l = true) : Region.noSelect ops = true ∧ l.length = ops.size ∧ certOk ops (Region.before ops) = true ∧ lowOk ops = true ∧ unOk l (Region.before ops) = true ∧ lowUn l = true := by
  simp only [orderOk, Bool.and_eq_true, decide_eq_true_eq] at h
  exact ⟨h.1.1.1.1.1, h.1.1.1.1.2, h.1.1.1.2, h.1.1.2, h.1.2, h.2⟩

theorem unOk_get (h : unOk l b = true) {i j : Nat} {t : AStmt} (ht : l[j]? = some t) (hij : i < j) : bit b j i = true ∨ (i ∈ t.un ∧ ∀ s, l[i]? = some s → apartA i s j t = true ∧ (s.op.isH = false ∨ t.easy = true)) := by
  have h1 := List.all_eq_true.1 h (t, j) (by rw [List.mem_zipIdx_iff_getElem?]; exact ht)
  have h2 := List.all_eq_true.1 h1 i (List.mem_range.2 hij)
  simp only [Bool.or_eq_true, Bool.and_eq_true, List.contains_iff_mem] at h2
  rcases h2 with h2 | ⟨h2, h3⟩
  · exact .inl h2
  · refine .inr ⟨h2, fun s hs => ?_⟩
    rw [hs] at h3
    simp only [Bool.and_eq_true, Bool.or_eq_true, Bool.not_eq_true'] at h3
    exact h3

theorem lowUn_get (h : lowUn l = true) {i j : Nat} {t : AStmt} (ht : l[j]? = some t) (hi : i ∈ t.un) : i < j := by
  have h1 := List.all_eq_true.1 h (t, j) (by rw [List.mem_zipIdx_iff_getElem?]; exact ht)
  have h2 := List.all_eq_true.1 h1 i hi
  simpa using h2

theorem lowOk_get (h : lowOk ops = true) {j : Nat} {o : Oper} (ho : ops[j]? = some o) : ∀ e ∈ o.after, Region.binds .any e = true → e.on < j := by
  intro e he hb
  have h1 := List.all_eq_true.1 h (o, j) (by rw [List.mem_zipIdx_iff_getElem?]; simpa using ho)
  have h2 := Array.all_eq_true_iff_forall_mem.1 h1 e he
  simpa [hb] using h2

/-- the first k have come up -/
def UpTo (n k : Nat) (listed : Array Bool) : Prop := listed.size = n ∧ ∀ j, j < n → listed.getD j true = decide (j < k)

theorem upto_lt {n k : Nat} {listed : Array Bool} (h : UpTo n k listed) {j : Nat} (hj : listed.getD j true = false) : j < n ∧ k ≤ j := by
  have hjn : j < n := by
    apply Classical.byContradiction
    intro hn
    have : listed[j]? = none := Array.getElem?_eq_none (by rw [h.1]; omega)
    simp [this] at hj
  refine ⟨hjn, ?_⟩
  have := h.2 j hjn
  rw [hj] at this
  simpa using this.symm

theorem upto_listed {n k : Nat} {listed : Array Bool} (h : UpTo n k listed) {j : Nat} (hj : j < k) (hn : j < n) : listed.getD j false = true := by
  have h1 := h.2 j hn
  have h2 : j < listed.size := by rw [h.1]; exact hn
  simp only [hj, decide_true] at h1
  simp [h2] at h1 ⊢
  exact h1

theorem lex_any (ho : orderOk ops l = true) : ∀ (m k : Nat), k + m = ops.size → ∀ (listed : Array Bool) (st : St) (locs : Tr V) (fps : Tr FP), UpTo ops.size k listed → (∀ j, k ≤ j → fps.get j = none) →
    arunOps P (l.drop k) k st locs fps K → aAny P ops l K m listed st locs fps := by
  obtain ⟨hsel, hlen, hcert, hlow, hun, hlun⟩ := orderOk_spec ho
  intro m
  induction m with
  | zero =>
    intro k hk listed st locs fps hu hf h
    have : l.drop k = [] := List.drop_eq_nil_of_le (by omega)
    rw [this] at h
    refine ⟨?_, h⟩
    refine List.eq_nil_iff_forall_not_mem.2 fun j hj => ?_
    obtain ⟨h1, _⟩ := mem_ready.1 hj
    have := upto_lt hu h1
    omega
  | succ m ih =>
    intro k hk listed st locs fps hu hf h
    have hlt : k < l.length := by omega
    rw [List.drop_eq_getElem_cons hlt] at h
    simp only [arunOps] at h
    have hs : l[k]? = some l[k] := List.getElem?_eq_getElem hlt
    have hko : ∃ o, ops[k]? = some o := ⟨_, Array.getElem?_eq_getElem (by omega)⟩
    obtain ⟨o, hko⟩ := hko
    have hcl : Closed ops listed := by
      intro j oj hj hl e he hb
      have hjn : j < ops.size := (Array.getElem?_eq_some_iff.1 hj).1
      have hjk : j < k := by
        apply Classical.byContradiction
        intro hn
        have h1 := hu.2 j hjn
        have h2 : j < listed.size := by rw [hu.1]; exact hjn
        simp [hn, h2] at h1 hl
        rw [h1] at hl; cases hl
      have := lowOk_get hlow hj e he hb
      exact upto_listed hu (by omega) (by omega)
    have hready : k ∈ Region.ready .any ops listed := by
      refine mem_ready.2 ⟨by rw [hu.2 k (by omega)]; simp, o, hko, fun e he hb => ?_⟩
      have := lowOk_get hlow hko e he hb
      exact upto_listed hu this (by omega)
    refine bubble hcert hs m listed st locs fps hcl ?_ hready (hf k (Nat.le_refl _)) ?_
    · intro j t ht hjk hl
      obtain ⟨hjn, hkj⟩ := upto_lt hu hl
      have hlt' : k < j := by omega
      refine ⟨hlt', ?_⟩
      rcases unOk_get hun ht hlt' with h1 | ⟨h1, h2⟩
      · exact .inl h1
      · refine .inr ⟨h1, ?_, h2⟩
        rw [hs]
        intro hm
        have := lowUn_get hlun hs hm
        omega
    · refine astmt_mono (fun st' locs' fp h => ?_) h
      refine ih (k + 1) (by omega) _ st' locs' _ ⟨by simp [hu.1], fun j hj => ?_⟩ (fun j hj => ?_) h
      · by_cases e : k = j
        · subst e
          have : k < listed.size := by rw [hu.1]; omega
          simp [this]
        · rw [getD_set_ne true e, hu.2 j hj]
          simp only [decide_eq_decide]; omega
      · rw [Tr.get_put_ne _ _ (by omega)]
        exact hf j (by omega)

theorem any_wp {c : Cfg} {nb : Nat} {E : Ent} (hbk : ∀ t k, (c.env ops.toList).boxk t = some k → k < nb) (hget : ∀ (j : Nat) (s : AStmt), l[j]? = some s → ∃ o, ops.toList[j]? = some o ∧ StmtOk P c ops.toList j o s) (hlen : l.length = ops.size) {Q : Exit → Act → World → Prop}
    (hQ : ∀ a w, CX c nb E K a w → Q .normal a w) : ∀ (n : Nat) (listed : Array Bool) (a : Act) (w : World), NX c ops.toList nb E (aAny P ops l K n listed) a w → wpAny P .any ops Q n listed a w := by
  intro n
  induction n with
  | zero =>
    intro listed a w ⟨G, st, locs, fps, F, hsm, h⟩
    exact ⟨h.1, hQ a w ⟨G, st, F.leaveR, hsm, h.2⟩⟩
  | succ n ih =>
    intro listed a w ⟨G, st, locs, fps, F, hsm, h⟩
    refine ⟨fun h0 => hQ a w ⟨G, st, F.leaveR, hsm, h.1 h0⟩, fun i hi => ?_⟩
    obtain ⟨_, o, ho, _⟩ := mem_ready.1 hi
    have hil : i < l.length := by rw [hlen]; exact (Array.getElem?_eq_some_iff.1 ho).1
    obtain ⟨o', ho', S⟩ := hget i l[i] (List.getElem?_eq_getElem hil)
    have := astmt_wp (Q := Q) S hsm F hbk (h.2 i hi l[i] (List.getElem?_eq_getElem hil))
    exact wpOp_mono (fun a' w' hn => ih _ a' w' hn) this

/-- every region that draws its order and passes the check -/
theorem drawOk (hm : P.follows .mixedOrders = true) {c : Cfg} {nb : Nat} {E : Ent} (hbk : ∀ t k, (c.env []).boxk t = some k → k < nb) : DrawOk P c nb E := by
  intro ops l hget ho K Q id a w h hQ
  obtain ⟨hsel, hlen, _⟩ := orderOk_spec ho
  obtain ⟨G, st, F, hsm, h⟩ := h
  refine wp_region_any hm (any_wp (ops := ops) (l := l) (K := K) hbk hget hlen hQ ops.size _ a _ ⟨G, st, .lf, .lf, ?_, hsm, ?_⟩)
  · exact (F.enterR (ops := ops.toList))
  · refine lex_any ho ops.size 0 (by omega) _ st .lf .lf ⟨by simp, fun j hj => by simp [hj]⟩ (fun _ _ => rfl) (by simpa using h)

end Go.AI

/- From a run of the interpreter's to a contract: for a program that mixes orders. -/
namespace Go.AI
open Go

variable {P : Program} {c : Cfg}

theorem HV_run (hm : P.follows .mixedOrders = true) {F : FuncId} {f : Func} {af : AFun} {args : List V} {H : Heap} {Q : V → Heap → Prop} (hf : P.funcs[F]? = some f) (hc : compileFn P c f = some af) (h : frun P af args H Q) : HV P F args H Q :=
  HV_of_frun hf hc (fun _ => drawOk hm fun t k hk => by
    obtain ⟨_, _, _, _, _, h4, _⟩ := compileFn_ok hc
    rw [h4]; exact idxIn_lt hk) h

theorem PV_run (hm : P.follows .mixedOrders = true) {F : FuncId} {f : Func} {af : AFun} {ds : List V} {r0 : V} (hf : P.funcs[F]? = some f) (hc : compileFn P c f = some af)
    (h : frun P af ds Heap.empty fun r h => (frzV h r).map (·.1) = some r0) : PV P F ds r0 := PV_of_HV (HV_run hm hf hc h) fun _ _ h => h

/-- a function that is translated -/
structure Has (P : Program) (F : FuncId) (af : AFun) : Prop where
  mixed : P.follows .mixedOrders = true
  fn : ∃ (c : Cfg) (f : Func), P.funcs[F]? = some f ∧ compileFn P c f = some af

theorem Has.hv {F : FuncId} {af : AFun} (h : Has P F af) {args : List V} {H : Heap} {Q : V → Heap → Prop} (hr : frun P af args H Q) : HV P F args H Q := by
  obtain ⟨hm, c, f, hf, hc⟩ := h
  exact HV_run hm hf hc hr

theorem Has.pv {F : FuncId} {af : AFun} (h : Has P F af) {ds : List V} {r0 : V} (hr : frun P af ds Heap.empty fun r h => (frzV h r).map (·.1) = some r0) : PV P F ds r0 := by
  obtain ⟨hm, c, f, hf, hc⟩ := h
  exact PV_run hm hf hc hr

end Go.AI

/- Rewriting rules by which a run is walked. -/
namespace Go.AI
open Go

variable {P : Program}

/-- what follows, sealed -/
def kS (P : Program) (r : List AStmt) (i : Nat) (K : St → Prop) : St → Tr V → Tr FP → Prop := fun st locs fps => arunOps P r i st locs fps K
def kC (P : Program) (c : ACode) (Q : AExit → St → Prop) : St → Prop := fun st => arun P c st Q

theorem w_cons {s : AStmt} {r : List AStmt} {i : Nat} {st : St} {locs : Tr V} {fps : Tr FP} {K : St → Prop} : arunOps P (s :: r) i st locs fps K = astmt P s i st locs fps (kS P r (i + 1) K) := _root_.id rfl
theorem w_nil {i : Nat} {st : St} {locs : Tr V} {fps : Tr FP} {K : St → Prop} : arunOps P [] i st locs fps K = K st := _root_.id rfl
theorem w_kS {r : List AStmt} {i : Nat} {K : St → Prop} {st : St} {locs : Tr V} {fps : Tr FP} : kS P r i K st locs fps = arunOps P r i st locs fps K := _root_.id rfl
theorem w_skip {st : St} {Q : AExit → St → Prop} : arun P .skip st Q = Q .normal st := _root_.id rfl
theorem w_region {ops : List AStmt} {st : St} {Q : AExit → St → Prop} : arun P (.region ops) st Q = arunOps P ops 0 st .lf .lf (regK Q) := _root_.id rfl
theorem w_seq {a b : ACode} {st : St} {Q : AExit → St → Prop} : arun P (.seq a b) st Q = arun P a st (thenK (kC P b Q) Q) := _root_.id rfl
theorem w_kC {c : ACode} {Q : AExit → St → Prop} {st : St} : kC P c Q st = arun P c st Q := _root_.id rfl
theorem w_block {id : Nat} {c : ACode} {st : St} {Q : AExit → St → Prop} : arun P (.block id c) st Q = arun P c st (blockK id Q) := _root_.id rfl
theorem w_exit {id : Nat} {st : St} {Q : AExit → St → Prop} : arun P (.exit id) st Q = Q (.exit id) st := _root_.id rfl
theorem w_ret {st : St} {Q : AExit → St → Prop} : arun P .ret st Q = Q .ret st := _root_.id rfl
theorem w_regK {Q : AExit → St → Prop} {st : St} : regK Q st = Q .normal st := _root_.id rfl
theorem w_then1 {n : St → Prop} {Q : AExit → St → Prop} {st : St} : thenK n Q .normal st = n st := _root_.id rfl
theorem w_then2 {n : St → Prop} {Q : AExit → St → Prop} {st : St} {id : Nat} : thenK n Q (.exit id) st = Q (.exit id) st := _root_.id rfl
theorem w_then3 {n : St → Prop} {Q : AExit → St → Prop} {st : St} : thenK n Q .ret st = Q .ret st := _root_.id rfl
theorem w_block1 {id : Nat} {Q : AExit → St → Prop} {st : St} : blockK id Q .normal st = Q .normal st := _root_.id rfl
theorem w_block2 {id id' : Nat} {Q : AExit → St → Prop} {st : St} : blockK id Q (.exit id') st = if id' = id then Q .normal st else Q (.exit id') st := _root_.id rfl
theorem w_block3 {id : Nat} {Q : AExit → St → Prop} {st : St} : blockK id Q .ret st = Q .ret st := _root_.id rfl
theorem w_round1 {I : Nat → St → Prop} {n : Nat} {Q : AExit → St → Prop} {st : St} : roundK I n Q .normal st = ∃ m, m < n ∧ I m st := _root_.id rfl
theorem w_round2 {I : Nat → St → Prop} {n : Nat} {Q : AExit → St → Prop} {st : St} {id : Nat} : roundK I n Q (.exit id) st = Q (.exit id) st := _root_.id rfl
theorem w_round3 {I : Nat → St → Prop} {n : Nat} {Q : AExit → St → Prop} {st : St} : roundK I n Q .ret st = Q .ret st := _root_.id rfl

def condK (v : V) (A B : St → Prop) (st : St) : Prop :=
  match v with
  | .one (.bool t) => if t then A st else B st
  | _ => False
theorem w_cond {x : Opd} {a b : ACode} {st : St} {Q : AExit → St → Prop} : arun P (.cond x a b) st Q = condK (ev st .lf x) (kC P a Q) (kC P b Q) st := by
  simp only [arun, condK, kC]
  generalize ev st .lf x = v
  cases v with
  | one c => cases c <;> rfl
  | _ => rfl
theorem w_condT {A B : St → Prop} {st : St} : condK (.one (.bool true)) A B st = A st := _root_.id rfl
theorem w_condF {A B : St → Prop} {st : St} : condK (.one (.bool false)) A B st = B st := _root_.id rfl
theorem w_loop {c : ACode} {st : St} {Q : AExit → St → Prop} (I : Nat → St → Prop) (n : Nat) (h0 : I n st) (h : ∀ n st, I n st → arun P c st (roundK I n Q)) : arun P (.loop c) st Q := ⟨I, n, h0, h⟩

/-! stores -/
theorem t_get0 {α : Type} {v : Option α} {l r : Tr α} : (Tr.nd v l r).get 0 = v := rfl
theorem t_getlf {α : Type} {n : Nat} : (Tr.lf : Tr α).get n = none := rfl

def retR (v : Option V) (Q : V → Heap → Prop) (h : Heap) : Prop :=
  match v with
  | some r => Q r h
  | none => False
theorem w_retK {rs : List (Opd × Option (Option Nat))} {Q : V → Heap → Prop} {st : St} : retK rs Q .ret st = retR (resV st rs) Q st.heap := by
  simp only [retK, retR]; cases resV st rs <;> rfl
theorem w_retN {rs : List (Opd × Option (Option Nat))} {Q : V → Heap → Prop} {st : St} : retK rs Q .normal st = retR (resV st rs) Q st.heap := by
  simp only [retK, retR]; cases resV st rs <;> rfl
theorem b_none : isBox none = false := rfl
theorem b_one {c : C} : isBox (some (.one c)) = false := rfl
theorem b_agg {cs : List C} : isBox (some (.agg cs)) = false := rfl
theorem b_lit {els : List (List C)} : isBox (some (.lit els)) = false := rfl
theorem b_tup {vs : List V} : isBox (some (.tup vs)) = false := rfl
theorem b_undef : isBox (some .undef) = false := rfl
theorem b_box {g : Nat} {cs : List C} : isBox (some (.box g cs)) = true := rfl

theorem callP_of {f : FuncId} {ds : List V} {ids : List Nat} {s : AStmt} {i : Nat} {st : St} {locs : Tr V} {fps : Tr FP} {K : St → Tr V → Tr FP → Prop} {r : V} (h : PV P f ds r)
    (hb : behind s i (killR r ids st) locs fps r { FP.no with rd := ids, wr := if r.holds then ids else [] } K) : callP P f ds ids s i st locs fps K := ⟨r, h, hb⟩

end Go.AI

/- A frozen cell, as it lies in a heap that is still written: its objects are told apart, and how it is frozen, kept and made longer. -/
namespace Go.AI
open Go

inductive Th (h : Heap) : Nat → C → C → (Nat → Prop) → Prop where
  | int (n : Nat) (k : IntKind) (v : Int) (I : Nat → Prop) : Th h n (.int k v) (.int k v) I
  | bool (n : Nat) (b : Bool) (I : Nat → Prop) : Th h n (.bool b) (.bool b) I
  | str (n : Nat) (s : List UInt8) (I : Nat → Prop) : Th h n (.str s) (.str s) I
  | nil (n : Nat) (I : Nat → Prop) : Th h n (.dv []) .nils I
  | sl (n : Nat) (xs els : List (List C)) (id g ty sz : Nat) (I : Nat → Prop) (J : Nat → Nat → Prop)
      (hat : h.mem.get id = some ⟨g, ty, sz, true, els⟩) (hl : els.length = xs.length) (hI : I id)
      (hsz : ∀ (i : Nat) (el el' : List C), xs[i]? = some el → els[i]? = some el' → el.length = sz ∧ el'.length = sz)
      (hsub : ∀ i k, J i k → I k ∧ k ≠ id)
      (hdis : ∀ i i' k, J i k → J i' k → i = i')
      (hd : ∀ (i : Nat) (el el' : List C) (j : Nat) (c c' : C), xs[i]? = some el → els[i]? = some el' → el[j]? = some c → el'[j]? = some c' → Th h n c c' (J i)) :
      Th h (n + 1) (.dv xs) (.sl id g 0 xs.length) I

/-- the same at the top, with the type of its elements told -/
def Acc (h : Heap) (ty sz n : Nat) (xs : List (List C)) (c : C) (I : Nat → Prop) : Prop :=
  (xs = [] ∧ c = .nils) ∨ ∃ (els : List (List C)) (id g : Nat) (J : Nat → Nat → Prop), c = .sl id g 0 xs.length ∧ h.mem.get id = some ⟨g, ty, sz, true, els⟩ ∧ els.length = xs.length ∧ I id ∧
    (∀ (i : Nat) (el el' : List C), xs[i]? = some el → els[i]? = some el' → el.length = sz ∧ el'.length = sz) ∧
    (∀ i k, J i k → I k ∧ k ≠ id) ∧ (∀ i i' k, J i k → J i' k → i = i') ∧
    (∀ (i : Nat) (el el' : List C) (j : Nat) (c c' : C), xs[i]? = some el → els[i]? = some el' → el[j]? = some c → el'[j]? = some c' → Th h n c c' (J i))

theorem Acc.th {h : Heap} {ty sz n : Nat} {xs : List (List C)} {c : C} {I : Nat → Prop} (a : Acc h ty sz n xs c I) : Th h (n + 1) (.dv xs) c I := by
  rcases a with ⟨rfl, rfl⟩ | ⟨els, id, g, J, rfl, h1, h2, h3, h4, h5, h6, h7⟩
  · exact .nil _ _
  · exact .sl n xs els id g ty sz I J h1 h2 h3 h4 h5 h6 h7

theorem Th.mono {h : Heap} {n : Nat} {d c : C} {I I' : Nat → Prop} (t : Th h n d c I) (hi : ∀ k, I k → I' k) : Th h n d c I' := by
  cases t with
  | int => exact .int ..
  | bool => exact .bool ..
  | str => exact .str ..
  | nil => exact .nil ..
  | sl n xs els id g ty sz _ J hat hl hI hsz hsub hdis hd => exact .sl n xs els id g ty sz I' J hat hl (hi _ hI) hsz (fun i k hk => ⟨hi _ (hsub i k hk).1, (hsub i k hk).2⟩) hdis hd

theorem Th.up {h : Heap} {n : Nat} {d c : C} {I : Nat → Prop} (t : Th h n d c I) : ∀ {m : Nat}, n ≤ m → Th h m d c I := by
  induction t with
  | int => exact fun _ => .int ..
  | bool => exact fun _ => .bool ..
  | str => exact fun _ => .str ..
  | nil => exact fun _ => .nil ..
  | sl n xs els id g ty sz _ J hat hl hI hsz hsub hdis hd ih =>
    intro m hm
    obtain ⟨m, rfl⟩ : ∃ m', m = m' + 1 := ⟨m - 1, by omega⟩
    exact .sl m xs els id g ty sz _ J hat hl hI hsz hsub hdis fun i el el' j c c' h1 h2 h3 h4 => ih i el el' j c c' h1 h2 h3 h4 (by omega)

theorem Th.frame {h h' : Heap} {n : Nat} {d c : C} {I : Nat → Prop} (t : Th h n d c I) (hk : ∀ k, I k → h'.mem.get k = h.mem.get k) : Th h' n d c I := by
  induction t with
  | int => exact .int ..
  | bool => exact .bool ..
  | str => exact .str ..
  | nil => exact .nil ..
  | sl n xs els id g ty sz I J hat hl hI hsz hsub hdis hd ih =>
    exact .sl n xs els id g ty sz I J ((hk id hI).trans hat) hl hI hsz hsub hdis fun i el el' j c c' h1 h2 h3 h4 => ih i el el' j c c' h1 h2 h3 h4 fun k hJ => hk k (hsub i k hJ).1

theorem Acc.mono {h : Heap} {ty sz n : Nat} {xs : List (List C)} {c : C} {I I' : Nat → Prop} (a : Acc h ty sz n xs c I) (hi : ∀ k, I k → I' k) : Acc h ty sz n xs c I' := by
  rcases a with ⟨rfl, rfl⟩ | ⟨els, id, g, J, rfl, h1, h2, h3, h4, h5, h6, h7⟩
  · exact .inl ⟨rfl, rfl⟩
  · exact .inr ⟨els, id, g, J, rfl, h1, h2, hi _ h3, h4, fun i k hk => ⟨hi _ (h5 i k hk).1, (h5 i k hk).2⟩, h6, h7⟩

theorem Acc.up {h : Heap} {ty sz n m : Nat} {xs : List (List C)} {c : C} {I : Nat → Prop} (a : Acc h ty sz n xs c I) (hm : n ≤ m) : Acc h ty sz m xs c I := by
  rcases a with ⟨rfl, rfl⟩ | ⟨els, id, g, J, rfl, h1, h2, h3, h4, h5, h6, h7⟩
  · exact .inl ⟨rfl, rfl⟩
  · exact .inr ⟨els, id, g, J, rfl, h1, h2, h3, h4, h5, h6, fun i el el' j c c' a1 a2 a3 a4 => (h7 i el el' j c c' a1 a2 a3 a4).up hm⟩

theorem Acc.frame {h h' : Heap} {ty sz n : Nat} {xs : List (List C)} {c : C} {I : Nat → Prop} (a : Acc h ty sz n xs c I) (hk : ∀ k, I k → h'.mem.get k = h.mem.get k) : Acc h' ty sz n xs c I := by
  rcases a with ⟨rfl, rfl⟩ | ⟨els, id, g, J, rfl, h1, h2, h3, h4, h5, h6, h7⟩
  · exact .inl ⟨rfl, rfl⟩
  · exact .inr ⟨els, id, g, J, rfl, (hk id h3).trans h1, h2, h3, h4, h5, h6, fun i el el' j c c' a1 a2 a3 a4 => (h7 i el el' j c c' a1 a2 a3 a4).frame fun k hJ => hk k (h5 i k hJ).1⟩

theorem Heap.at_of {h : Heap} {id g ty sz : Nat} {els : List (List C)} (hm : h.mem.get id = some ⟨g, ty, sz, true, els⟩) : h.at id g = some ⟨g, ty, sz, true, els⟩ := by
  simp [Heap.at, Heap.look, hm]

@[simp] theorem Heap.at_new {h : Heap} {ty sz : Nat} {els : List (List C)} : (h.new ty sz els).at h.next (h.fresh h.next) = some ⟨h.fresh h.next, ty, sz, true, els⟩ := by
  simp [Heap.at, Heap.look, Heap.new]

@[simp] theorem Heap.at_set {h : Heap} {id g ty sz : Nat} {els : List (List C)} : (h.set id ⟨g, ty, sz, true, els⟩).at id g = some ⟨g, ty, sz, true, els⟩ := by
  simp [Heap.at, Heap.look, Heap.set]
@[simp] theorem Heap.set_next {h : Heap} {id : Nat} {o : Obj} : (h.set id o).next = h.next := rfl
theorem Heap.set_get {h : Heap} {id m : Nat} {o : Obj} : (h.set id o).mem.get m = if m = id then some o else h.mem.get m := by simp [Heap.set, Tr.get_put_if]

/-! ### freezing -/
theorem mapM_of {α β : Type} {f : α → Option β} {g : α → β} : ∀ {l : List α}, (∀ x ∈ l, f x = some (g x)) → l.mapM f = some (l.map g)
  | [], _ => rfl
  | x :: r, h => by
    simp only [List.mapM_cons, h x (by simp), mapM_of (l := r) (fun y hy => h y (by simp [hy])), List.map_cons]
    rfl

theorem mapM_at {α β : Type} {f : α → Option β} : ∀ {l : List α}, (∀ (i : Nat) (x : α), l[i]? = some x → ∃ y, f x = some y) → ∃ ys : List β, l.mapM f = some ys ∧ ys.length = l.length ∧ ∀ (i : Nat) (x : α) (y : β), l[i]? = some x → ys[i]? = some y → f x = some y
  | [], _ => ⟨[], rfl, rfl, by simp⟩
  | x :: r, h => by
    obtain ⟨y, hy⟩ := h 0 x rfl
    obtain ⟨ys, h1, h2, h3⟩ := mapM_at (f := f) (l := r) (fun i x hx => h (i + 1) x (by simpa using hx))
    refine ⟨y :: ys, by simp [List.mapM_cons, hy, h1], by simp [h2], fun i x' y' hx hy' => ?_⟩
    cases i with
    | zero => simp at hx hy'; subst hx hy'; exact hy
    | succ i => exact h3 i x' y' (by simpa using hx) (by simpa using hy')

theorem Th.frz {h : Heap} {n : Nat} {d c : C} {I : Nat → Prop} (t : Th h n d c I) : ∀ m, n ≤ m → ∃ ids, AI.frz h m c = some (d, ids) ∧ ∀ k ∈ ids, I k := by
  induction t with
  | int => intro m _; exact ⟨[], by cases m <;> rfl, by simp⟩
  | bool => intro m _; exact ⟨[], by cases m <;> rfl, by simp⟩
  | str => intro m _; exact ⟨[], by cases m <;> rfl, by simp⟩
  | nil => intro m _; exact ⟨[], by cases m <;> rfl, by simp⟩
  | sl n xs els id g ty sz I J hat hl hI hsz hsub hdis hd ih =>
    intro m hm
    obtain ⟨m, rfl⟩ : ∃ m', m = m' + 1 := ⟨m - 1, by omega⟩
    have hcell : ∀ (i : Nat) (el' : List C), els[i]? = some el' → ∃ y, (fun el => el.mapM (AI.frz h m)) el' = some y := by
      intro i el' he
      have hi : i < xs.length := by rw [← hl]; exact (List.getElem?_eq_some_iff.1 he).1
      obtain ⟨el, hx⟩ : ∃ el, xs[i]? = some el := ⟨xs[i], by simp [hi]⟩
      have hln := hsz i el el' hx he
      obtain ⟨ys, h1, _⟩ := mapM_at (f := AI.frz h m) (l := el') (fun j c' hc => by
        have hj : j < el.length := by rw [hln.1, ← hln.2]; exact (List.getElem?_eq_some_iff.1 hc).1
        obtain ⟨ids, h1, _⟩ := ih i el el' j el[j] c' hx he (by simp [hj]) hc m (by omega)
        exact ⟨_, h1⟩)
      exact ⟨ys, h1⟩
    obtain ⟨ys, h1, h2, h3⟩ := mapM_at (f := fun el => el.mapM (AI.frz h m)) (l := els) hcell
    have hy : ∀ (i : Nat) (el : List C) (y : List (C × List Nat)), xs[i]? = some el → ys[i]? = some y → y.map (·.1) = el ∧ ∀ p ∈ y, ∀ k ∈ p.2, I k := by
      intro i el y hx hy
      have hi : i < els.length := by rw [hl]; exact (List.getElem?_eq_some_iff.1 hx).1
      have he : els[i]? = some els[i] := by simp [hi]
      have hln := hsz i el els[i] hx he
      have hm1 := h3 i els[i] y he hy
      obtain ⟨zs, z1, z2, z3⟩ := mapM_at (f := AI.frz h m) (l := els[i]) (fun j c' hc => by
        have hj : j < el.length := by rw [hln.1, ← hln.2]; exact (List.getElem?_eq_some_iff.1 hc).1
        obtain ⟨ids, h1, _⟩ := ih i el els[i] j el[j] c' hx he (by simp [hj]) hc m (by omega)
        exact ⟨_, h1⟩)
      have : y = zs := by rw [z1] at hm1; cases hm1; rfl
      subst this
      have key : ∀ (j : Nat) (p : C × List Nat), y[j]? = some p → el[j]? = some p.1 ∧ ∀ k ∈ p.2, I k := by
        intro j p hp
        have hj : j < y.length := (List.getElem?_eq_some_iff.1 hp).1
        have hj1 : j < els[i].length := by omega
        have hj2 : j < el.length := by omega
        obtain ⟨ids, f1, f2⟩ := ih i el els[i] j el[j] els[i][j] hx he (by simp [hj2]) (by simp [hj1]) m (by omega)
        have := z3 j els[i][j] p (by simp [hj1]) hp
        rw [f1] at this
        cases this
        exact ⟨by simp [hj2], fun k hk => (hsub i k (f2 k hk)).1⟩
      constructor
      · apply List.ext_getElem?
        intro j
        by_cases hj : j < y.length
        · rw [List.getElem?_map, List.getElem?_eq_getElem hj]
          exact (key j _ (List.getElem?_eq_getElem hj)).1.symm
        · rw [List.getElem?_map, List.getElem?_eq_none (by omega), List.getElem?_eq_none (by omega)]; rfl
      · intro p hp k hk
        obtain ⟨j, hj, rfl⟩ := List.getElem_of_mem hp
        exact (key j _ (List.getElem?_eq_getElem hj)).2 k hk
    have hxs : ys.map (fun el => el.map (·.1)) = xs := by
      apply List.ext_getElem?
      intro i
      by_cases hi : i < xs.length
      · have hi2 : i < ys.length := by omega
        rw [List.getElem?_map, List.getElem?_eq_getElem hi2, List.getElem?_eq_getElem hi]
        simp only [Option.map_some, Option.some.injEq]
        exact (hy i _ _ (List.getElem?_eq_getElem hi) (List.getElem?_eq_getElem hi2)).1
      · rw [List.getElem?_map, List.getElem?_eq_none (by omega), List.getElem?_eq_none (by omega)]; rfl
    refine ⟨id :: (ys.flatMap fun el => el.flatMap (·.2)), ?_, ?_⟩
    · rw [AI.frz.eq_def]
      simp only [Heap.at_of hat]
      rw [if_pos (by omega), List.drop_zero, ← hl, List.take_length, h1]
      simp only [hxs]
    · intro k hk
      rcases List.mem_cons.1 hk with rfl | hk
      · exact hI
      · obtain ⟨y, hy1, hy2⟩ := List.mem_flatMap.1 hk
        obtain ⟨p, hp1, hp2⟩ := List.mem_flatMap.1 hy2
        obtain ⟨i, hi, rfl⟩ := List.getElem_of_mem hy1
        have hi2 : i < xs.length := by omega
        exact (hy i _ _ (List.getElem?_eq_getElem hi2) (List.getElem?_eq_getElem hi)).2 p hp1 k hp2

/-! ### new numbers -/
def Rng (lo hi : Nat) : Nat → Prop := fun k => lo ≤ k ∧ k < hi

/-- what lies below a number is as it was -/
def Keep (n : Nat) (h h' : Heap) : Prop := h.next ≤ h'.next ∧ ∀ k, k < n → h'.mem.get k = h.mem.get k

theorem Keep.refl (n : Nat) (h : Heap) : Keep n h h := ⟨Nat.le_refl _, fun _ _ => rfl⟩
theorem Keep.trans {n : Nat} {h h' h'' : Heap} (a : Keep n h h') (b : Keep n h' h'') : Keep n h h'' := ⟨Nat.le_trans a.1 b.1, fun k hk => (b.2 k hk).trans (a.2 k hk)⟩
theorem Keep.less {n m : Nat} {h h' : Heap} (a : Keep n h h') (hm : m ≤ n) : Keep m h h' := ⟨a.1, fun k hk => a.2 k (by omega)⟩

theorem Acc.push {h : Heap} {ty sz n lo m bytes : Nat} {xs : List (List C)} {c : C} (a : Acc h ty sz n xs c (Rng lo m)) (hm : m ≤ h.next) (hlo : lo ≤ m) {el el' : List C}
    (h1 : el.length = sz) (h2 : el'.length = sz) (hd : ∀ (j : Nat) (c c' : C), el[j]? = some c → el'[j]? = some c' → Th h n c c' (Rng m h.next))
    (hb : (xs.length + 1) * bytes ≤ 140737488355328) :
    ∃ c' h' fp, appendC h ty sz bytes (.one c) [el'] = some (.one c', h', fp) ∧ Acc h' ty sz n (xs ++ [el]) c' (Rng lo h'.next) ∧ Keep lo h h' := by
  rcases a with ⟨rfl, rfl⟩ | ⟨els, id, g, J, rfl, a1, a2, a3, a4, a5, a6, a7⟩
  · refine ⟨.sl h.next (h.fresh h.next) 0 1, h.new ty sz [el'], FP.fresh h.next, ?_, ?_, ?_⟩
    · simp only [List.length_nil, Nat.zero_add, Nat.one_mul] at hb
      simp [appendC, h2, hb]
    · refine .inr ⟨[el'], h.next, h.fresh h.next, fun i k => i = 0 ∧ Rng m h.next k, rfl, by simp [Heap.new], rfl, ⟨by omega, by simp [Heap.new]⟩, ?_, ?_, ?_, ?_⟩
      · intro i e e' he he'
        cases i with
        | zero => simp at he he'; subst he he'; exact ⟨h1, h2⟩
        | succ i => simp at he
      · intro i k hk; exact ⟨⟨by have := hk.2.1; omega, by have := hk.2.2; simp [Heap.new]; omega⟩, by have := hk.2.2; omega⟩
      · intro i i' k hk hk'; exact hk.1.trans hk'.1.symm
      · intro i e e' j c c' he he' hc hc'
        cases i with
        | zero =>
          simp at he he'; subst he he'
          exact ((hd j c c' hc hc').mono (fun k hk => ⟨rfl, hk⟩)).frame fun k hk => by
            have := hk.2.2; simp [Heap.new, Tr.get_put_if]; omega
        | succ i => simp at he
    · exact ⟨by simp [Heap.new], fun k hk => by simp [Heap.new, Tr.get_put_if]; omega⟩
  · have hid : id < m := a3.2
    have hid1 : lo ≤ id := a3.1
    refine ⟨.sl id (g + 1) 0 (xs.length + 1), h.set id ⟨g + 1, ty, sz, true, els ++ [el']⟩, FP.write [id], ?_, ?_, ?_⟩
    · simp only [appendC, List.all_cons, List.all_nil, Bool.and_true, h2, decide_true, if_true, Heap.at_of a1, a2, List.length_cons, List.length_nil]
      rw [if_pos (by simp), if_neg (by omega), if_pos (by simp; omega)]
      simp [← a2]
    · refine .inr ⟨els ++ [el'], id, g + 1, fun i k => (i < xs.length ∧ J i k) ∨ (i = xs.length ∧ Rng m h.next k), by simp, by simp [Heap.set], by simp [a2], ⟨hid1, by simp [Heap.set]; omega⟩, ?_, ?_, ?_, ?_⟩
      · intro i e e' he he'
        rcases Nat.lt_trichotomy i xs.length with hi | hi | hi
        · rw [List.getElem?_append_left hi] at he
          rw [List.getElem?_append_left (by omega)] at he'
          exact a4 i e e' he he'
        · subst hi
          rw [List.getElem?_append_right (Nat.le_refl _)] at he
          rw [← a2, List.getElem?_append_right (Nat.le_refl _)] at he'
          simp at he he'; subst he he'; exact ⟨h1, h2⟩
        · rw [List.getElem?_eq_none (by simp; omega)] at he; cases he
      · rintro i k (⟨_, hk⟩ | ⟨_, hk⟩)
        · have h5 := a5 i k hk
          exact ⟨⟨h5.1.1, by have := h5.1.2; simp [Heap.set]; omega⟩, h5.2⟩
        · exact ⟨⟨by have := hk.1; omega, by have := hk.2; simpa [Heap.set] using this⟩, by have := hk.1; omega⟩
      · rintro i i' k (⟨h3, hk⟩ | ⟨h3, hk⟩) (⟨h4, hk'⟩ | ⟨h4, hk'⟩)
        · exact a6 i i' k hk hk'
        · have := (a5 i k hk).1.2; have := hk'.1; omega
        · have := (a5 i' k hk').1.2; have := hk.1; omega
        · omega
      · intro i e e' j c c' he he' hc hc'
        rcases Nat.lt_trichotomy i xs.length with hi | hi | hi
        · rw [List.getElem?_append_left hi] at he
          rw [List.getElem?_append_left (by omega)] at he'
          exact ((a7 i e e' j c c' he he' hc hc').mono (fun k hk => .inl ⟨hi, hk⟩) |>.frame fun k hk => by
            have hne : k ≠ id := by
              rcases hk with ⟨_, hk⟩ | ⟨h3, _⟩
              · exact (a5 i k hk).2
              · omega
            simp [Heap.set, Tr.get_put_if, hne])
        · subst hi
          rw [List.getElem?_append_right (Nat.le_refl _)] at he
          rw [← a2, List.getElem?_append_right (Nat.le_refl _)] at he'
          simp at he he'; subst he he'
          exact ((hd j c c' hc hc').mono (fun k hk => .inr ⟨rfl, hk⟩) |>.frame fun k hk => by
            have hne : k ≠ id := by
              rcases hk with ⟨h3, _⟩ | ⟨_, hk⟩
              · omega
              · have := hk.1; omega
            simp [Heap.set, Tr.get_put_if, hne])
        · rw [List.getElem?_eq_none (by simp; omega)] at he; cases he
    · exact ⟨by simp [Heap.set], fun k hk => by simp [Heap.set, Tr.get_put_if]; omega⟩

/-! ### a slice of one's own whose elements are frozen -/
def AccD (h : Heap) (ty sz : Nat) (els : List (List C)) (c : C) : Prop :=
  (els = [] ∧ c = .nils) ∨ ∃ id g, c = .sl id g 0 els.length ∧ h.mem.get id = some ⟨g, ty, sz, true, els⟩ ∧ id < h.next

theorem AccD.push {h : Heap} {ty sz bytes : Nat} {els : List (List C)} {c : C} (a : AccD h ty sz els c) {news : List (List C)} (hn : ∀ el ∈ news, el.length = sz) (hb : (els.length + news.length) * bytes ≤ 140737488355328) :
    ∃ c' h' fp, appendC h ty sz bytes (.one c) news = some (.one c', h', fp) ∧ AccD h' ty sz (els ++ news) c' ∧ h.next ≤ h'.next := by
  have hall : news.all (fun el => decide (el.length = sz)) = true := by simpa using hn
  rcases a with ⟨rfl, rfl⟩ | ⟨id, g, rfl, hm, hid⟩
  · by_cases h0 : news = []
    · subst h0
      exact ⟨.nils, h, FP.no, by simp [appendC], .inl ⟨rfl, rfl⟩, Nat.le_refl _⟩
    · simp only [List.length_nil, Nat.zero_add] at hb
      refine ⟨.sl h.next (h.fresh h.next) 0 news.length, h.new ty sz news, FP.fresh h.next, ?_, .inr ⟨h.next, h.fresh h.next, by simp, by simp [Heap.new], by simp [Heap.new]⟩, by simp [Heap.new]⟩
      simp only [appendC, hall, if_true, h0, if_false, hb]
  · by_cases h0 : news = []
    · subst h0
      refine ⟨.sl id g 0 els.length, h.set id ⟨g, ty, sz, true, els⟩, FP.write [id], ?_, .inr ⟨id, g, by simp, by simp [Heap.set], by simpa [Heap.set] using hid⟩, by simp [Heap.set]⟩
      simp [appendC, Heap.at_of hm]
    · have hp : 0 < news.length := by cases news; exact absurd rfl h0; simp
      refine ⟨.sl id (g + 1) 0 (els.length + news.length), h.set id ⟨g + 1, ty, sz, true, els ++ news⟩, FP.write [id], ?_, .inr ⟨id, g + 1, by simp, by simp [Heap.set], by simpa [Heap.set] using hid⟩, by simp [Heap.set]⟩
      simp only [appendC, hall, if_true, Heap.at_of hm]
      rw [if_pos (by simp), if_neg (by omega), if_pos (by simp; exact hb)]
      simp

theorem AccD.frz {h : Heap} {ty sz n : Nat} {els : List (List C)} {c : C} (a : AccD h ty sz els c) (hd : ∀ el ∈ els, ∀ c ∈ el, AI.frz h n c = some (c, [])) : ∃ ids, AI.frz h (n + 1) c = some (.dv els, ids) := by
  rcases a with ⟨rfl, rfl⟩ | ⟨id, g, rfl, hm, hid⟩
  · exact ⟨[], by simp [AI.frz]⟩
  · have h1 : els.mapM (fun el => el.mapM (AI.frz h n)) = some (els.map fun el => el.map fun c => (c, ([] : List Nat))) := mapM_of fun el hel => mapM_of fun c hc => hd el hel c hc
    have h2 : AI.frz h (n + 1) (.sl id g 0 els.length) = some (.dv els, id :: ((els.map fun el => el.map fun c => (c, ([] : List Nat))).flatMap fun el => el.flatMap (·.2))) := by
      rw [AI.frz.eq_def]
      simp only [Heap.at_of hm, Nat.zero_add, Nat.le_refl, if_true, List.drop_zero, List.take_length, h1]
      simp [Function.comp_def]
    exact ⟨_, h2⟩

end Go.AI

/- The walk's rewriting rules, as one set. -/
namespace Go.AI
set_option linter.unusedSimpArgs false
open Go

/-- what comes behind, named once (a continuation that is named twice doubles at each step) -/
def seqK (P : Program) (b : ACode) (Q : AExit → St → Prop) : AExit → St → Prop
  | .normal, st => arun P b st Q
  | e, st => Q e st
def condQ (P : Program) (v : V) (a b : ACode) (Q : AExit → St → Prop) (st : St) : Prop :=
  match v with
  | .one (.bool t) => if t then arun P a st Q else arun P b st Q
  | _ => False
section
variable {P : Program}
@[simp] theorem w_seqQ {a b : ACode} {st : St} {Q : AExit → St → Prop} : arun P (.seq a b) st Q = arun P a st (seqK P b Q) := _root_.id rfl
@[simp] theorem w_seq1 {b : ACode} {Q : AExit → St → Prop} {st : St} : seqK P b Q .normal st = arun P b st Q := _root_.id rfl
@[simp] theorem w_seq2 {b : ACode} {Q : AExit → St → Prop} {st : St} {id : Nat} : seqK P b Q (.exit id) st = Q (.exit id) st := _root_.id rfl
@[simp] theorem w_seq3 {b : ACode} {Q : AExit → St → Prop} {st : St} : seqK P b Q .ret st = Q .ret st := _root_.id rfl
@[simp] theorem w_condQ {x : Opd} {a b : ACode} {st : St} {Q : AExit → St → Prop} : arun P (.cond x a b) st Q = condQ P (ev st .lf x) a b Q st := _root_.id rfl
@[simp] theorem w_condQT {a b : ACode} {st : St} {Q : AExit → St → Prop} : condQ P (.one (.bool true)) a b Q st = arun P a st Q := _root_.id rfl
@[simp] theorem w_condQF {a b : ACode} {st : St} {Q : AExit → St → Prop} : condQ P (.one (.bool false)) a b Q st = arun P b st Q := _root_.id rfl
@[simp] theorem w_condD {p : Prop} [Decidable p] {a b : ACode} {st : St} {Q : AExit → St → Prop} : condQ P (.one (.bool (decide p))) a b Q st = if p then arun P a st Q else arun P b st Q := by
  by_cases hp : p <;> simp [hp, condQ]
@[simp] theorem w_condN {p : Prop} [Decidable p] {a b : ACode} {st : St} {Q : AExit → St → Prop} : condQ P (.one (.bool (!(decide p)))) a b Q st = if p then arun P b st Q else arun P a st Q := by
  by_cases hp : p <;> simp [hp, condQ]
end
attribute [simp] w_cons w_nil w_kS w_skip w_region w_block w_exit w_ret w_regK w_block1 w_block2 w_block3 w_round1 w_round2 w_round3 w_retK w_retN retR
attribute [simp] guardOk vstep ev behind V.cells putDst okDst dstFree fpOk FP.dst Tr.get_put_if t_getlf varV FP.no St.now cellsAt binC asInt? asBool? one? V.holds C.holds V.plain
attribute [simp] b_none b_one b_agg b_lit b_tup b_undef b_box enterF putAll resV resOf frzV frz1 frzAll partsOf litOf fillC fillL writeAt addC FP.free noneOf FP.heapy FP.read FP.write FP.fresh rdOf elsOf Heap.empty

/-! the operations, each by itself; those that look through a place are sealed, so that a fact about an unknown place can be used -/
def idxV (h : Heap) (sz : Nat) (x i : V) : Option (V × Heap × FP) :=
  match x, asInt? i with
  | .one (.dv xs), some n => if 0 ≤ n then (xs[n.toNat]?).bind fun el => if el.length = sz then some (.one (.dp el 0), h, FP.no) else none else none
  | .lit xs, some n => if 0 ≤ n then (xs[n.toNat]?).bind fun el => if el.length = sz then some (.one (.dp el 0), h, FP.no) else none else none
  | .one (.sl id gen off len), some n =>
    match h.at id gen with
    | some o => if 0 ≤ n ∧ n < len ∧ o.sz = sz then some (.one (.ptr id gen (off + n.toNat) 0), h, FP.read [id]) else none
    | none => none
  | _, _ => none
def loadV (h : Heap) (n : Option Nat) (x : V) : Option (V × Heap × FP) :=
  match x with
  | .one (.ptr id gen el off) => ((h.at id gen).bind fun o => (o.els[el]?).bind fun cs => cellsAt cs off n).map fun v => (v, h, FP.read [id])
  | .one (.dp el off) => (cellsAt el off n).map fun v => (v, h, FP.no)
  | _ => none
@[simp] theorem lenOf_lit {els : List (List C)} : lenOf false (.lit els) = some els.length := rfl
@[simp] theorem lenOf_dv {els : List (List C)} : lenOf false (.one (.dv els)) = some els.length := rfl
@[simp] theorem lenOf_nils : lenOf false (.one .nils) = some 0 := rfl
@[simp] theorem lenOf_sl {id gen off len : Nat} : lenOf false (.one (.sl id gen off len)) = some len := rfl
@[simp] theorem lenOf_str {s : List UInt8} : lenOf true (.one (.str s)) = some s.length := rfl
@[simp] theorem idxV_dv {h : Heap} {sz : Nat} {i : V} {xs : List (List C)} : idxV h sz (.one (.dv xs)) i = (match asInt? i with | some n => if 0 ≤ n then (xs[n.toNat]?).bind fun el => if el.length = sz then some (.one (.dp el 0), h, FP.no) else none else none | none => none) := by
  simp only [idxV]; cases asInt? i <;> rfl
@[simp] theorem idxV_lit {h : Heap} {sz : Nat} {i : V} {xs : List (List C)} : idxV h sz (.lit xs) i = (match asInt? i with | some n => if 0 ≤ n then (xs[n.toNat]?).bind fun el => if el.length = sz then some (.one (.dp el 0), h, FP.no) else none else none | none => none) := by
  simp only [idxV]; cases asInt? i <;> rfl
@[simp] theorem idxV_sl {h : Heap} {sz : Nat} {i : V} {id gen off len : Nat} : idxV h sz (.one (.sl id gen off len)) i = (match asInt? i with | some n => (match h.at id gen with | some o => if 0 ≤ n ∧ n < len ∧ o.sz = sz then some (.one (.ptr id gen (off + n.toNat) 0), h, FP.read [id]) else none | none => none) | none => none) := by
  simp only [idxV]; cases asInt? i <;> rfl
@[simp] theorem loadV_ptr {h : Heap} {n : Option Nat} {id gen el off : Nat} : loadV h n (.one (.ptr id gen el off)) = ((h.at id gen).bind fun o => (o.els[el]?).bind fun cs => cellsAt cs off n).map fun v => (v, h, FP.read [id]) := rfl
@[simp] theorem loadV_dp {h : Heap} {n : Option Nat} {el : List C} {off : Nat} : loadV h n (.one (.dp el off)) = (cellsAt el off n).map fun v => (v, h, FP.no) := rfl
section
variable {st : St} {locs : Tr V}
@[simp] theorem a_idx {sz : Nat} {x i : Opd} : astep st locs (.indexAddr sz x i) = idxV st.heap sz (ev st locs x) (ev st locs i) := rfl
@[simp] theorem a_load {n : Option Nat} {x : Opd} : astep st locs (.load n x) = loadV st.heap n (ev st locs x) := rfl
@[simp] theorem a_mov {x : Opd} : astep st locs (.mov x) = some (ev st locs x, st.heap, FP.no) := rfl
@[simp] theorem a_pick {c a b : Opd} : astep st locs (.pick c a b) = (asBool? (ev st locs c)).map fun t => (if t then ev st locs a else ev st locs b, st.heap, FP.no) := rfl
@[simp] theorem a_boxD {ty sz : Nat} {x : Opd} : astep st locs (.boxD ty sz x) = (match (ev st locs x).cells with
    | some cs => if cs.length = sz then some (.one (.ptr st.heap.next (st.heap.fresh st.heap.next) 0 0), st.heap.new ty sz [cs], FP.fresh st.heap.next) else none
    | none => none) := rfl
@[simp] theorem a_boxS {k ty sz : Nat} {x : Opd} : astep st locs (.boxS k ty sz x) = (match (ev st locs x).cells with
    | some cs => if cs.length = sz then
        some (.one (.ptr (st.base + k) (st.heap.fresh (st.base + k)) 0 0), st.heap.set (st.base + k) { gen := st.heap.fresh (st.base + k), ty, sz, live := true, els := [cs] }, FP.write [st.base + k]) else none
    | none => none) := rfl
@[simp] theorem a_build {z : List C} {ps : List (Nat × Nat × Opd)} : astep st locs (.build z ps) = ((partsOf st locs ps).bind (fillC z)).map fun cs => (.agg cs, st.heap, FP.no) := rfl
@[simp] theorem a_lit {sz len : Nat} {z : List C} {ps : List (Nat × Opd)} : astep st locs (.lit sz len z ps) = ((litOf st locs sz ps).bind (fillL (List.replicate len z))).map fun els => (if els = [] then .one .nils else .lit els, st.heap, FP.no) := rfl
@[simp] theorem a_litD {ty sz len : Nat} {z : List C} {ps : List (Nat × Opd)} : astep st locs (.litD ty sz len z ps) = ((litOf st locs sz ps).bind (fillL (List.replicate len z))).map fun els =>
      (.one (.sl st.heap.next (st.heap.fresh st.heap.next) 0 els.length), st.heap.new ty sz els, FP.fresh st.heap.next) := rfl
@[simp] theorem a_store {n : Nat} {p x : Opd} : astep st locs (.store n p x) = (match ev st locs p, (ev st locs x).cells with
    | .one (.ptr id gen el off), some cs =>
      match st.heap.at id gen with
      | some o =>
        match o.els[el]? with
        | some e => if cs.length = n ∧ off + n ≤ e.length then some (.undef, st.heap.set id { o with els := o.els.set el (writeAt e off cs) }, FP.write [id]) else none
        | none => none
      | none => none
    | _, _ => none) := rfl
@[simp] theorem a_nil {x : Opd} : astep st locs (.nilCheck x) = (match ev st locs x with
    | .one (.ptr id gen el off) => some (.one (.ptr id gen el off), st.heap, FP.no)
    | .one (.dp el off) => some (.one (.dp el off), st.heap, FP.no)
    | .one (.fn f caps) => some (.one (.fn f caps), st.heap, FP.no)
    | _ => none) := rfl
@[simp] theorem a_bin {op : BinOp} {t : EqTy} {x y : Opd} : astep st locs (.bin op t x y) = (match ev st locs x, ev st locs y with
    | .one a, .one b => (binC op t a b).map fun c => (.one c, st.heap, FP.no)
    | _, _ => none) := rfl
@[simp] theorem a_not {x : Opd} : astep st locs (.not x) = (asBool? (ev st locs x)).map fun b => (.one (.bool (!b)), st.heap, FP.no) := rfl
@[simp] theorem a_conv {k : IntKind} {x : Opd} : astep st locs (.conv k x) = (asInt? (ev st locs x)).map fun (n : Int) => (.one (.int k (k.wrap n)), st.heap, FP.no) := rfl
@[simp] theorem a_strOf {x : Opd} : astep st locs (.strOf x) = ((elsOf st.heap (ev st locs x)).bind bytesOf).map fun s => (.one (.str s), st.heap, FP.read (rdOf (ev st locs x))) := rfl
@[simp] theorem a_mk {ty sz bytes : Nat} {zero : List C} {len cap : Opd} : astep st locs (.mkSlice ty sz bytes zero len cap) = (match asInt? (ev st locs len), asInt? (ev st locs cap) with
    | some n, some m => if 0 ≤ n ∧ n ≤ m ∧ m * bytes ≤ 281474976710656 ∧ m ≤ 9223372036854775807 ∧ zero.length = sz ∧ 0 < sz then
        some (.one (.sl st.heap.next (st.heap.fresh st.heap.next) 0 n.toNat), st.heap.new ty sz (List.replicate n.toNat zero), FP.fresh st.heap.next) else none
    | _, _ => none) := rfl
@[simp] theorem a_slice {str : Bool} {sz : Nat} {x : Opd} {lo hi : Option Opd} : astep st locs (.slice str sz x lo hi) = (match lo.map (fun o => asInt? (ev st locs o)), hi.map (fun o => asInt? (ev st locs o)) with
    | some none, _ => none
    | _, some none => none
    | l, u => (sliceC st.heap str sz (ev st locs x) (l.getD none) (u.getD none)).map fun v => (v, st.heap, FP.read (rdOf (ev st locs x)))) := rfl
@[simp] theorem a_fieldAddr {off : Nat} {x : Opd} : astep st locs (.fieldAddr off x) = (match ev st locs x with
    | .one c => (addC off c).map fun p => (.one p, st.heap, FP.no)
    | _ => none) := rfl
@[simp] theorem a_field {off : Nat} {n : Option Nat} {x : Opd} : astep st locs (.field off n x) = (match ev st locs x with
    | .agg cs => (cellsAt cs off n).map fun v => (v, st.heap, FP.no)
    | _ => none) := rfl
@[simp] theorem a_index {x i : Opd} : astep st locs (.index x i) = (match ev st locs x, asInt? (ev st locs i) with
    | .one (.str s), some n => if 0 ≤ n then (s[n.toNat]?).map fun b => (.one (.int .u8 b.toNat), st.heap, FP.no) else none
    | _, _ => none) := rfl
@[simp] theorem a_len {str : Bool} {x : Opd} : astep st locs (.len str x) = (lenOf str (ev st locs x)).map fun (n : Nat) => (.one (.int .i64 (n : Int)), st.heap, FP.no) := rfl
@[simp] theorem a_append {ty sz bytes : Nat} {x y : Opd} : astep st locs (.append ty sz bytes x y) = ((elsOf st.heap (ev st locs y)).bind fun news => appendC st.heap ty sz bytes (ev st locs x) news).map fun (v, h, fp) => (v, h, { fp with rd := rdOf (ev st locs y) ++ fp.rd }) := rfl
@[simp] theorem a_minmax {mx : Bool} {x y : Opd} : astep st locs (.minmax mx x y) = (match ev st locs x, ev st locs y with
    | .one (.int k a), .one (.int _ b) => some (.one (.int k (if mx then (if b > a then b else a) else (if b < a then b else a))), st.heap, FP.no)
    | _, _ => none) := rfl
@[simp] theorem a_extract {x : Opd} {i : Nat} : astep st locs (.extract x i) = (match ev st locs x with
    | .tup vs => (vs[i]?).map fun v => (v, st.heap, FP.no)
    | _ => none) := rfl
@[simp] theorem a_cap {x : Opd} : astep st locs (.cap x) = (match ev st locs x with
    | .one .nils => some (.one (.int .i64 0), st.heap, FP.no)
    | _ => none) := rfl
@[simp] theorem a_appendZ {ty sz bytes : Nat} {zero : List C} {x n : Opd} : astep st locs (.appendZ ty sz bytes zero x n) = (match ev st locs x, asInt? (ev st locs n) with
    | .one .nils, some m => if 0 < m ∧ m * bytes ≤ 140737488355328 ∧ m ≤ 140737488355328 ∧ zero.length = sz then
        some (.one (.sl st.heap.next (st.heap.fresh st.heap.next) 0 m.toNat), st.heap.new ty sz (List.replicate m.toNat zero), FP.fresh st.heap.next) else none
    | _, _ => none) := rfl
@[simp] theorem a_bad : astep st locs .bad = none := rfl
@[simp] theorem a_mkfn {f : FuncId} {caps : List Opd} : astep st locs (.mkfn f caps) = (caps.mapM fun o => one? (ev st locs o)).map fun cs => (.one (.fn f cs), st.heap, FP.no) := rfl
end

/-! one statement, so that what follows stays sealed until its value is there -/
def opK (o : Option (V × St × FP)) (s : AStmt) (i : Nat) (locs : Tr V) (fps : Tr FP) (K : St → Tr V → Tr FP → Prop) : Prop :=
  match o with
  | some (v, st', fp) => behind s i st' locs fps v fp K
  | none => False
def frzK (P : Program) (f : FuncId) (o : Option (List V × List Nat)) (s : AStmt) (i : Nat) (st : St) (locs : Tr V) (fps : Tr FP) (K : St → Tr V → Tr FP → Prop) : Prop :=
  match o with
  | some (ds, ids) => callP P f ds ids s i st locs fps K
  | none => False
def fnK (P : Program) (v : V) (args : List V) (s : AStmt) (i : Nat) (st : St) (locs : Tr V) (fps : Tr FP) (K : St → Tr V → Tr FP → Prop) : Prop :=
  match v with
  | .one (.fn f caps) => callH P f (args ++ caps.map .one) s i st locs fps K
  | _ => False
def runK (P : Program) (op : AOp) (s : AStmt) (i : Nat) (st : St) (locs : Tr V) (fps : Tr FP) (K : St → Tr V → Tr FP → Prop) : Prop :=
  match op with
  | .call f args heap => if heap then callH P f (args.map (ev st locs)) s i st locs fps K else frzK P f (frzAll st.heap (args.map (ev st locs))) s i st locs fps K
  | .callV x args => fnK P (ev st locs x) (args.map (ev st locs)) s i st locs fps K
  | op => opK (vstep st locs op) s i locs fps K
def gK (P : Program) (g : Option Bool) (s : AStmt) (i : Nat) (st : St) (locs : Tr V) (fps : Tr FP) (K : St → Tr V → Tr FP → Prop) : Prop :=
  match g with
  | none => False
  | some false => behind s i st locs fps (.tup []) FP.no K
  | some true => runK P s.op s i st locs fps K
@[simp] theorem w_astmt {P : Program} {s : AStmt} {i : Nat} {st : St} {locs : Tr V} {fps : Tr FP} {K : St → Tr V → Tr FP → Prop} : astmt P s i st locs fps K = gK P (guardOk st locs s.guard) s i st locs fps K := _root_.id rfl
@[simp] theorem w_opS {v : V} {st' : St} {fp : FP} {s : AStmt} {i : Nat} {locs : Tr V} {fps : Tr FP} {K : St → Tr V → Tr FP → Prop} : opK (some (v, st', fp)) s i locs fps K = behind s i st' locs fps v fp K := _root_.id rfl
@[simp] theorem w_frzS {P : Program} {f : FuncId} {ds : List V} {ids : List Nat} {s : AStmt} {i : Nat} {st : St} {locs : Tr V} {fps : Tr FP} {K : St → Tr V → Tr FP → Prop} : frzK P f (some (ds, ids)) s i st locs fps K = callP P f ds ids s i st locs fps K := _root_.id rfl
@[simp] theorem w_fnS {P : Program} {f : FuncId} {caps : List C} {args : List V} {s : AStmt} {i : Nat} {st : St} {locs : Tr V} {fps : Tr FP} {K : St → Tr V → Tr FP → Prop} : fnK P (.one (.fn f caps)) args s i st locs fps K = callH P f (args ++ caps.map .one) s i st locs fps K := _root_.id rfl
@[simp] theorem w_gF {P : Program} {s : AStmt} {i : Nat} {st : St} {locs : Tr V} {fps : Tr FP} {K : St → Tr V → Tr FP → Prop} : gK P (some false) s i st locs fps K = behind s i st locs fps (.tup []) FP.no K := _root_.id rfl
@[simp] theorem w_gT {P : Program} {s : AStmt} {i : Nat} {st : St} {locs : Tr V} {fps : Tr FP} {K : St → Tr V → Tr FP → Prop} : gK P (some true) s i st locs fps K = runK P s.op s i st locs fps K := _root_.id rfl
attribute [simp] runK behindK

@[simp] theorem killR_nil {r : V} {st : St} : killR r [] st = st := by unfold killR; split <;> rfl
@[simp] theorem killR_int {k : IntKind} {n : Int} {ids : List Nat} {st : St} : killR (.one (.int k n)) ids st = st := rfl
@[simp] theorem killR_bool {b : Bool} {ids : List Nat} {st : St} : killR (.one (.bool b)) ids st = st := rfl
@[simp] theorem killR_str {b : List UInt8} {ids : List Nat} {st : St} : killR (.one (.str b)) ids st = st := rfl

/-- in the range of Go's int -/
def I64 (n : Int) : Prop := -9223372036854775808 ≤ n ∧ n ≤ 9223372036854775807
theorem wrapI {n : Int} (h : I64 n) : IntKind.i64.wrap n = n := IntWalk.i64_in _ (by unfold I64 at h; omega)

/-- what the variables hold -/
def NB (vars : Tr V) (l : List Nat) : Prop := ∀ s ∈ l, isBox (vars.get s) = false
@[simp] theorem NB_nil {vars : Tr V} : NB vars [] = True := by simp [NB]
@[simp] theorem NB_cons {vars : Tr V} {s : Nat} {l : List Nat} : NB vars (s :: l) = (isBox (vars.get s) = false ∧ NB vars l) := by simp [NB]

/-- a loop whose invariant is sealed while its round is walked -/
theorem w_for {P : Program} {c : ACode} {st : St} {Q : AExit → St → Prop} (I : Nat → St → Prop) (n : Nat) (h0 : I n st) (h : ∀ J, J = I → ∀ n st, I n st → arun P c st (roundK J n Q)) : arun P (.loop c) st Q := ⟨I, n, h0, fun n st hn => h I rfl n st hn⟩

@[simp] theorem frz_int {h : Heap} {n : Nat} {k : IntKind} {v : Int} : frz h n (.int k v) = some (.int k v, []) := by cases n <;> rfl
@[simp] theorem frz_bool {h : Heap} {n : Nat} {v : Bool} : frz h n (.bool v) = some (.bool v, []) := by cases n <;> rfl
@[simp] theorem frz_str {h : Heap} {n : Nat} {v : List UInt8} : frz h n (.str v) = some (.str v, []) := by cases n <;> rfl
@[simp] theorem frz_dv {h : Heap} {n : Nat} {v : List (List C)} : frz h n (.dv v) = some (.dv v, []) := by cases n <;> rfl
@[simp] theorem frz_nils {h : Heap} {n : Nat} : frz h n .nils = some (.dv [], []) := by cases n <;> rfl
@[simp] theorem frzCells_nil {h : Heap} : frzCells h [] = some ([], []) := rfl
@[simp] theorem frzCells_cons {h : Heap} {c : C} {r : List C} : frzCells h (c :: r) = (match frz h frzDepth c, frzCells h r with | some (d, i), some (ds, j) => some (d :: ds, i ++ j) | _, _ => none) := by
  simp only [frzCells, List.mapM_cons]
  cases h1 : frz h frzDepth c with
  | none => rfl
  | some p =>
    cases h2 : List.mapM (frz h frzDepth) r with
    | none => rfl
    | some q => rfl

theorem chkK_f {un : List Nat} {fps : Tr FP} {fp : FP} {h : Heap} : chkK false un fps fp h = fpOk un fps fp := by
  unfold chkK fpOk
  congr 1
theorem callH_of {P : Program} {f : FuncId} {args : List V} {s : AStmt} {i : Nat} {st : St} {locs : Tr V} {fps : Tr FP} {K : St → Tr V → Tr FP → Prop} {Q : V → Heap → Prop} (h : HV P f args st.heap Q)
    (hp : args.all V.plain = true) (hf : fpOk s.un fps (({ FP.no with all := true } : FP).dst s.dst) = true)
    (hb : ∀ r h', Q r h' → behindK s i { st with heap := h' } locs fps r { FP.no with all := true } K) : callH P f args s i st locs fps K :=
  ⟨hp, false, by rw [chkK_f]; exact hf, h.mono fun r h' q => ⟨(fun h => nomatch h), hb r h' q⟩⟩
/-- the same, of a call that keeps what there is -/
theorem callK_of {P : Program} {f : FuncId} {args : List V} {s : AStmt} {i : Nat} {st : St} {locs : Tr V} {fps : Tr FP} {K : St → Tr V → Tr FP → Prop} {Q : V → Heap → Prop} (h : HV P f args st.heap Q)
    (hp : args.all V.plain = true) (hf : chkK true s.un fps (({ FP.no with all := true } : FP).dst s.dst) st.heap = true) (hk : ∀ r h', Q r h' → KeepAll st.heap h')
    (hb : ∀ r h', Q r h' → behindK s i { st with heap := h' } locs fps r { FP.no with all := true } K) : callH P f args s i st locs fps K :=
  ⟨hp, true, hf, h.mono fun r h' q => ⟨fun _ => hk r h' q, hb r h' q⟩⟩

/-- what a reading call hands back -/
def pvQ (r0 : V) : V → Heap → Prop := fun r h => (frzV h r).map (·.1) = some r0
theorem Has.pvq {P : Program} {F : FuncId} {af : AFun} (h : Has P F af) {ds : List V} {r0 : V} (hr : frun P af ds Heap.empty (pvQ r0)) : PV P F ds r0 := h.pv hr
@[simp] theorem pvQ_int {k : IntKind} {n m : Int} {h : Heap} : pvQ (.one (.int k n)) (.one (.int k m)) h = (m = n) := by simp [pvQ, frz]
@[simp] theorem pvQ_bool {n m : Bool} {h : Heap} : pvQ (.one (.bool n)) (.one (.bool m)) h = (m = n) := by simp [pvQ, frz]
@[simp] theorem pvQ_str {n m : List UInt8} {h : Heap} : pvQ (.one (.str n)) (.one (.str m)) h = (m = n) := by simp [pvQ, frz]
@[simp] theorem pvQ_dv {n m : List (List C)} {h : Heap} : pvQ (.one (.dv n)) (.one (.dv m)) h = (m = n) := by simp [pvQ, frz, frzDepth]
@[simp] theorem pvQ_nils {n : List (List C)} {h : Heap} : pvQ (.one (.dv n)) (.one .nils) h = ([] = n) := by simp [pvQ, frz, frzDepth]


end Go.AI

/- Cores as trees of numbers and texts: how they are laid as cells; their measures. -/
namespace Go.AI
set_option linter.unusedSimpArgs false
open Go

abbrev Txt := List UInt8

inductive Cr where
  | mk (op n : Int) (s t : Txt) (kids : List Cr)

def Cr.enc : Cr → List C
  | .mk a b c d k => [.int .i64 a, .int .i64 b, .str c, .str d, .dv (k.map Cr.enc)]
def Cr.kids : Cr → List Cr
  | .mk _ _ _ _ k => k
/-- the kids' cell -/
def encL (k : List Cr) : C := .dv (k.map Cr.enc)
@[simp] theorem frz_encL {h : Heap} {n : Nat} {k : List Cr} : AI.frz h n (encL k) = some (encL k, []) := by simp [encL]
theorem enc_mk (a b : Int) (s t : Txt) (k : List Cr) : (Cr.mk a b s t k).enc = [.int .i64 a, .int .i64 b, .str s, .str t, encL k] := by simp [Cr.enc, encL]

mutual
def Cr.wt : Cr → Nat
  | .mk _ _ s t k => 1 + s.length + t.length + wtL k
def wtL : List Cr → Nat
  | [] => 0
  | x :: r => x.wt + wtL r
end
mutual
/-- how deep the kids lie -/
def Cr.kd : Cr → Nat
  | .mk _ _ _ _ k => kdL k
def kdL : List Cr → Nat
  | [] => 0
  | x :: r => max (x.kd + 1) (kdL r)
end
mutual
def Cr.cnt : Cr → Nat
  | .mk _ _ _ _ k => cntL k
/-- how many cores lie in some -/
def cntL : List Cr → Nat
  | [] => 0
  | x :: r => 1 + x.cnt + cntL r
end

theorem wt_mk (a b : Int) (s t : Txt) (k : List Cr) : (Cr.mk a b s t k).wt = 1 + s.length + t.length + wtL k := by simp [Cr.wt]
theorem wtL_nil : wtL [] = 0 := by simp [wtL]
theorem wtL_cons (x : Cr) (r : List Cr) : wtL (x :: r) = x.wt + wtL r := by simp [wtL]
theorem kd_mk (a b : Int) (s t : Txt) (k : List Cr) : (Cr.mk a b s t k).kd = kdL k := by simp [Cr.kd]
theorem kdL_nil : kdL [] = 0 := by simp [kdL]
theorem kdL_cons (x : Cr) (r : List Cr) : kdL (x :: r) = max (x.kd + 1) (kdL r) := by simp [kdL]
theorem cnt_mk (a b : Int) (s t : Txt) (k : List Cr) : (Cr.mk a b s t k).cnt = cntL k := by simp [Cr.cnt]
theorem cntL_nil : cntL [] = 0 := by simp [cntL]
theorem cntL_cons (x : Cr) (r : List Cr) : cntL (x :: r) = 1 + x.cnt + cntL r := by simp [cntL]

theorem wt_pos (x : Cr) : 1 ≤ x.wt := by cases x; rw [wt_mk]; omega
theorem wtL_mem : ∀ {k : List Cr} {x : Cr}, x ∈ k → x.wt ≤ wtL k
  | y :: r, x, h => by
    rw [wtL_cons]
    rcases List.mem_cons.1 h with rfl | h
    · omega
    · have := wtL_mem h; omega
theorem wtL_len : ∀ k : List Cr, k.length ≤ wtL k
  | [] => by simp [wtL]
  | x :: r => by rw [wtL_cons]; have := wtL_len r; have := wt_pos x; simp; omega
theorem kdL_mem : ∀ {k : List Cr} {x : Cr}, x ∈ k → x.kd + 1 ≤ kdL k
  | y :: r, x, h => by
    rw [kdL_cons]
    rcases List.mem_cons.1 h with rfl | h
    · omega
    · have := kdL_mem h; omega
theorem kdL_le : ∀ {k : List Cr} {n : Nat}, (∀ x ∈ k, x.kd + 1 ≤ n) → kdL k ≤ n
  | [], n, _ => by simp [kdL]
  | x :: r, n, h => by
    rw [kdL_cons]
    have := h x (by simp)
    have := kdL_le (k := r) fun y hy => h y (by simp [hy])
    omega
theorem wtL_append : ∀ (a b : List Cr), wtL (a ++ b) = wtL a + wtL b
  | [], b => by simp [wtL_nil]
  | x :: r, b => by simp [wtL_cons, wtL_append r b]; omega
theorem cntL_append : ∀ (a b : List Cr), cntL (a ++ b) = cntL a + cntL b
  | [], b => by simp [cntL_nil]
  | x :: r, b => by simp [cntL_cons, cntL_append r b]; omega

mutual
theorem kd_lt_wt : ∀ x : Cr, x.kd + 1 ≤ x.wt
  | .mk a b s t k => by rw [kd_mk, wt_mk]; have := kdL_le_wtL k; omega
theorem kdL_le_wtL : ∀ k : List Cr, kdL k ≤ wtL k
  | [] => by simp [kdL_nil]
  | x :: r => by rw [kdL_cons, wtL_cons]; have := kd_lt_wt x; have := kdL_le_wtL r; omega
end
mutual
theorem cnt_lt_wt : ∀ x : Cr, x.cnt + 1 ≤ x.wt
  | .mk a b s t k => by rw [cnt_mk, wt_mk]; have := cntL_le_wtL k; omega
theorem cntL_le_wtL : ∀ k : List Cr, cntL k ≤ wtL k
  | [] => by simp [cntL_nil]
  | x :: r => by rw [cntL_cons, wtL_cons]; have := cnt_lt_wt x; have := cntL_le_wtL r; omega
end

@[simp] theorem enc_len (x : Cr) : x.enc.length = 5 := by cases x; simp [Cr.enc]
@[simp] theorem enc_take (x : Cr) : x.enc.take 5 = x.enc := by cases x; simp [Cr.enc]
theorem enc_frz (h : Heap) (n : Nat) (x : Cr) : x.enc.mapM (frz h n) = some (x.enc.map fun c => (c, [])) := by
  cases x; cases n <;> simp [Cr.enc, frz]
@[simp] theorem enc_cells (h : Heap) (x : Cr) : frzCells h x.enc = some (x.enc, []) := by
  simp [frzCells, enc_frz, Function.comp_def]

/-! ### cores -/
mutual
def Cr.lim : Cr → Prop
  | .mk _ _ s t k => s.length < 900000000000000 ∧ t.length < 900000000000000 ∧ k.length < 900000000000000 ∧ limL k
def limL : List Cr → Prop
  | [] => True
  | x :: r => x.lim ∧ limL r
end
theorem limL_mem : ∀ {k : List Cr} {x : Cr}, limL k → x ∈ k → x.lim
  | y :: r, x, h, hx => by
    simp only [limL] at h
    rcases List.mem_cons.1 hx with rfl | hx
    · exact h.1
    · exact limL_mem h.2 hx
theorem limL_of : ∀ {k : List Cr}, (∀ x ∈ k, x.lim) → limL k
  | [], _ => by simp [limL]
  | y :: r, h => by simp only [limL]; exact ⟨h y (by simp), limL_of fun x hx => h x (by simp [hx])⟩

/-! ### a readable cell: frozen, or in a heap that is still written -/
def Rd (h : Heap) (d c : C) : Prop := c = d ∨ ∃ n I, Th h n d c I ∧ n ≤ frzDepth ∧ ∀ k, I k → k < h.next

theorem Rd.keep {h h' : Heap} {d c : C} {n : Nat} (r : Rd h d c) (k : Keep n h h') (hn : h.next ≤ n) : Rd h' d c := by
  rcases r with r | ⟨m, I, t, hm, hI⟩
  · exact .inl r
  · exact .inr ⟨m, I, t.frame fun k' hk => k.2 k' (by have := hI k' hk; omega), hm, fun k' hk => Nat.lt_of_lt_of_le (hI k' hk) k.1⟩

theorem Rd.frz {h : Heap} {k : List Cr} {c : C} (r : Rd h (encL k) c) : ∃ ids, AI.frz h frzDepth c = some (encL k, ids) := by
  rcases r with rfl | ⟨n, I, t, hn, hI⟩
  · exact ⟨[], by simp [encL, AI.frz, frzDepth]⟩
  · obtain ⟨ids, h1, _⟩ := t.frz frzDepth hn
    exact ⟨ids, h1⟩

theorem Rd.cells {h : Heap} {a b : Int} {s t : Txt} {k : List Cr} {c : C} (r : Rd h (encL k) c) :
    ∃ ids, frzCells h [.int .i64 a, .int .i64 b, .str s, .str t, c] = some ((Cr.mk a b s t k).enc, ids) := by
  obtain ⟨ids, h1⟩ := r.frz
  exact ⟨ids, by simp [h1, enc_mk]⟩

/-- the cells of a core that is readable -/
def RdC (h : Heap) (x : Cr) (cs : List C) : Prop :=
  match x with
  | .mk a b s t k => ∃ c, cs = [.int .i64 a, .int .i64 b, .str s, .str t, c] ∧ Rd h (encL k) c

theorem Rd.scalar {h : Heap} {d c : C} (r : Rd h d c) : (∀ k v, d = .int k v → c = d) ∧ (∀ s, d = .str s → c = d) := by
  rcases r with rfl | ⟨n, I, t, hn, hI⟩
  · exact ⟨fun _ _ _ => rfl, fun _ _ => rfl⟩
  · constructor
    · rintro k v rfl; cases t; rfl
    · rintro s rfl; cases t; rfl

/-- what a readable list of cores is -/
theorem Rd.look {h : Heap} {k : List Cr} {c : C} (r : Rd h (encL k) c) :
    c = encL k ∨ (c = .nils ∧ k = []) ∨ ∃ (id g ty sz : Nat) (els : List (List C)), c = .sl id g 0 k.length ∧ h.mem.get id = some ⟨g, ty, sz, true, els⟩ ∧ id < h.next ∧ els.length = k.length ∧
      (∀ i, i < k.length → sz = 5) ∧ ∀ (i : Nat) (x : Cr) (el : List C), k[i]? = some x → els[i]? = some el → RdC h x el := by
  rcases r with rfl | ⟨n, I, t, hn, hI⟩
  · exact .inl rfl
  generalize hd : encL k = d at t
  cases t with
  | int => simp [encL] at hd
  | bool => simp [encL] at hd
  | str => simp [encL] at hd
  | nil => simp [encL] at hd; exact .inr (.inl ⟨rfl, hd⟩)
  | sl n xs els id g ty sz _ J hat hl hI' hsz hsub hdis hd' =>
    simp only [encL, C.dv.injEq] at hd
    subst hd
    refine .inr (.inr ⟨id, g, ty, sz, els, by simp, hat, hI _ hI', by simpa using hl, fun i hi => ?_, fun i x el hx he => ?_⟩)
    · have hi2 : i < els.length := by rw [hl]; simpa using hi
      have := (hsz i k[i].enc els[i] (by simp [hi]) (by simp [hi2])).1
      rw [enc_len] at this; exact this.symm
    · have hx' : (k.map Cr.enc)[i]? = some x.enc := by simp [hx]
      have hl5 := hsz i x.enc el hx' he
      rw [enc_len] at hl5
      obtain ⟨rfl, hl5⟩ := hl5
      have key := hd' i x.enc el
      obtain ⟨a, b, s, t, kk⟩ := x
      match el, hl5 with
      | [e0, e1, e2, e3, e4], _ =>
        rw [enc_mk] at key hx'
        have k0 := key 0 _ _ hx' he rfl rfl
        have k1 := key 1 _ _ hx' he rfl rfl
        have k2 := key 2 _ _ hx' he rfl rfl
        have k3 := key 3 _ _ hx' he rfl rfl
        have k4 := key 4 _ _ hx' he rfl rfl
        cases k0; cases k1; cases k2; cases k3
        exact ⟨e4, rfl, .inr ⟨n, J i, k4, by omega, fun k' hk' => hI _ (hsub i k' hk').1⟩⟩

/-- the cells of a core whose objects are its own -/
def ThC (h : Heap) (n : Nat) (x : Cr) (cs : List C) (I : Nat → Prop) : Prop :=
  match x with
  | .mk a b s t k => ∃ c, cs = [.int .i64 a, .int .i64 b, .str s, .str t, c] ∧ Th h n (encL k) c I

theorem ThC.len {h : Heap} {n : Nat} {x : Cr} {cs : List C} {I : Nat → Prop} (t : ThC h n x cs I) : cs.length = 5 := by
  cases x; obtain ⟨c, rfl, _⟩ := t; rfl
theorem ThC.mono {h : Heap} {n : Nat} {x : Cr} {cs : List C} {I I' : Nat → Prop} (t : ThC h n x cs I) (hi : ∀ k, I k → I' k) : ThC h n x cs I' := by
  cases x; obtain ⟨c, rfl, t⟩ := t; exact ⟨c, rfl, t.mono hi⟩
theorem ThC.up {h : Heap} {n m : Nat} {x : Cr} {cs : List C} {I : Nat → Prop} (t : ThC h n x cs I) (hm : n ≤ m) : ThC h m x cs I := by
  cases x; obtain ⟨c, rfl, t⟩ := t; exact ⟨c, rfl, t.up hm⟩
theorem ThC.frame {h h' : Heap} {n : Nat} {x : Cr} {cs : List C} {I : Nat → Prop} (t : ThC h n x cs I) (hk : ∀ k, I k → h'.mem.get k = h.mem.get k) : ThC h' n x cs I := by
  cases x; obtain ⟨c, rfl, t⟩ := t; exact ⟨c, rfl, t.frame hk⟩
theorem ThC.th {h : Heap} {n : Nat} {x : Cr} {cs : List C} {I : Nat → Prop} (t : ThC h n x cs I) (j : Nat) (c c' : C) (h1 : x.enc[j]? = some c) (h2 : cs[j]? = some c') : Th h n c c' I := by
  cases x; obtain ⟨c5, rfl, t⟩ := t
  rw [enc_mk] at h1
  match j with
  | 0 => simp at h1 h2; subst h1 h2; exact .int ..
  | 1 => simp at h1 h2; subst h1 h2; exact .int ..
  | 2 => simp at h1 h2; subst h1 h2; exact .str ..
  | 3 => simp at h1 h2; subst h1 h2; exact .str ..
  | 4 => simp at h1 h2; subst h1 h2; exact t
  | n + 5 => simp at h1
theorem ThC.rd {h : Heap} {n : Nat} {x : Cr} {cs : List C} {I : Nat → Prop} (t : ThC h n x cs I) (hn : n ≤ frzDepth) (hI : ∀ k, I k → k < h.next) : RdC h x cs := by
  cases x; obtain ⟨c, rfl, t⟩ := t; exact ⟨c, rfl, .inr ⟨n, I, t, hn, hI⟩⟩
theorem ThC.frz {h : Heap} {n : Nat} {x : Cr} {cs : List C} {I : Nat → Prop} (t : ThC h n x cs I) (hn : n ≤ frzDepth) : ∃ ids, frzCells h cs = some (x.enc, ids) := by
  cases x; obtain ⟨c, rfl, t⟩ := t
  obtain ⟨ids, h1, _⟩ := t.frz frzDepth hn
  exact ⟨ids, by simp [h1, enc_mk]⟩

theorem Th.look {h : Heap} {n : Nat} {k : List Cr} {c : C} {I : Nat → Prop} (t : Th h n (encL k) c I) : (c = .nils ∧ k = []) ∨ ∃ (m id g ty sz : Nat) (els : List (List C)) (J : Nat → Nat → Prop), n = m + 1 ∧ c = .sl id g 0 k.length ∧
    h.mem.get id = some ⟨g, ty, sz, true, els⟩ ∧ I id ∧ els.length = k.length ∧ (∀ i, i < k.length → sz = 5) ∧ (∀ i m', J i m' → I m' ∧ m' ≠ id) ∧ (∀ i i' m', J i m' → J i' m' → i = i') ∧
    ∀ (i : Nat) (x : Cr) (el : List C), k[i]? = some x → els[i]? = some el → ThC h m x el (J i) := by
  generalize hd : encL k = d at t
  cases t with
  | int => simp [encL] at hd
  | bool => simp [encL] at hd
  | str => simp [encL] at hd
  | nil => simp [encL] at hd; exact .inl ⟨rfl, hd⟩
  | sl n xs els id g ty sz _ J hat hl hI' hsz hsub hdis hd' =>
    simp only [encL, C.dv.injEq] at hd
    subst hd
    refine .inr ⟨n, id, g, ty, sz, els, J, rfl, by simp, hat, hI', by simpa using hl, fun i hi => ?_, hsub, hdis, fun i x el hx he => ?_⟩
    · have hi2 : i < els.length := by rw [hl]; simpa using hi
      have := (hsz i k[i].enc els[i] (by simp [hi]) (by simp [hi2])).1
      rw [enc_len] at this; exact this.symm
    · have hx' : (k.map Cr.enc)[i]? = some x.enc := by simp [hx]
      have hl5 := hsz i x.enc el hx' he
      rw [enc_len] at hl5
      obtain ⟨rfl, hl5⟩ := hl5
      have key := hd' i x.enc el
      obtain ⟨a, b, s, t, kk⟩ := x
      match el, hl5 with
      | [e0, e1, e2, e3, e4], _ =>
        rw [enc_mk] at key hx'
        have k0 := key 0 _ _ hx' he rfl rfl
        have k1 := key 1 _ _ hx' he rfl rfl
        have k2 := key 2 _ _ hx' he rfl rfl
        have k3 := key 3 _ _ hx' he rfl rfl
        have k4 := key 4 _ _ hx' he rfl rfl
        cases k0; cases k1; cases k2; cases k3
        exact ⟨e4, rfl, k4⟩

theorem Th.mk {h : Heap} {m id g ty : Nat} {k : List Cr} {els : List (List C)} {I : Nat → Prop} {J : Nat → Nat → Prop} {sz : Nat} (hat : h.mem.get id = some ⟨g, ty, sz, true, els⟩) (hI : I id) (hl : els.length = k.length) (h5 : ∀ i, i < k.length → sz = 5)
    (hsub : ∀ i m', J i m' → I m' ∧ m' ≠ id) (hdis : ∀ i i' m', J i m' → J i' m' → i = i') (hd : ∀ (i : Nat) (x : Cr) (el : List C), k[i]? = some x → els[i]? = some el → ThC h m x el (J i)) : Th h (m + 1) (encL k) (.sl id g 0 k.length) I := by
  have e : k.length = (k.map Cr.enc).length := by simp
  rw [e]
  refine .sl m (k.map Cr.enc) els id g ty sz I J hat (by simpa using hl) hI (fun i el el' he he' => ?_) hsub hdis fun i el el' j c c' he he' hc hc' => ?_
  · simp only [List.getElem?_map, Option.map_eq_some_iff] at he
    obtain ⟨x, hx, rfl⟩ := he
    have := h5 i (List.getElem?_eq_some_iff.1 hx).1
    subst this
    exact ⟨enc_len x, (hd i x el' hx he').len⟩
  · simp only [List.getElem?_map, Option.map_eq_some_iff] at he
    obtain ⟨x, hx, rfl⟩ := he
    exact (hd i x el' hx he').th j c c' hc hc'

/-- a list of cores that is filled place by place -/
def Part (h : Heap) (id g n : Nat) (k : List Cr) (i : Nat) : Prop :=
  ∃ (ty : Nat) (els : List (List C)) (J : Nat → Nat → Prop), h.mem.get id = some ⟨g, ty, 5, true, els⟩ ∧ els.length = k.length ∧ (∀ (i' : Nat) (el : List C), els[i']? = some el → el.length = 5) ∧
    (∀ (i' : Nat) (x : Cr) (el : List C), i' < i → k[i']? = some x → els[i']? = some el → ThC h n x el (J i')) ∧ (∀ i' m, J i' m → id < m ∧ m < h.next) ∧ ∀ i' i'' m, J i' m → J i'' m → i' = i''

theorem Part.th {h : Heap} {id g n : Nat} {k : List Cr} (p : Part h id g n k k.length) (hid : id < h.next) : Th h (n + 1) (encL k) (.sl id g 0 k.length) (Rng id h.next) := by
  obtain ⟨ty, els, J, h1, h2, h3, h4, h5, h6⟩ := p
  have e : k.length = (k.map Cr.enc).length := by simp
  rw [e]
  refine .sl n (k.map Cr.enc) els id g ty 5 _ J h1 (by simpa using h2) ⟨by omega, hid⟩ (fun i el el' he he' => ?_) (fun i m hm => ⟨⟨by have := h5 i m hm; omega, (h5 i m hm).2⟩, by have := h5 i m hm; omega⟩) h6 fun i el el' j c c' he he' hc hc' => ?_
  · refine ⟨?_, h3 i el' he'⟩
    simp only [List.getElem?_map, Option.map_eq_some_iff] at he
    obtain ⟨x, _, rfl⟩ := he
    exact enc_len x
  · simp only [List.getElem?_map, Option.map_eq_some_iff] at he
    obtain ⟨x, hx, rfl⟩ := he
    exact (h4 i x el' (by have := List.getElem?_eq_some_iff.1 hx; exact this.1) hx he').th j c c' hc hc'

theorem Part.step {h h' : Heap} {id g n : Nat} {k : List Cr} {i : Nat} {x : Cr} {cs : List C} (p : Part h id g n k i) (hid : id < h.next) (hx : k[i]? = some x) (hk : Keep h.next h h') (ht : ThC h' n x cs (Rng h.next h'.next)) :
    ∃ ty els e, h.mem.get id = some ⟨g, ty, 5, true, els⟩ ∧ h'.mem.get id = some ⟨g, ty, 5, true, els⟩ ∧ els[i]? = some e ∧ e.length = 5 ∧ Part (h'.set id ⟨g, ty, 5, true, els.set i cs⟩) id g n k (i + 1) := by
  obtain ⟨ty, els, J, h1, h2, h3, h4, h5, h6⟩ := p
  have hi : i < k.length := (List.getElem?_eq_some_iff.1 hx).1
  have hi2 : i < els.length := by omega
  have hnx := hk.1
  refine ⟨ty, els, els[i], h1, (hk.2 id hid).trans h1, by simp [hi2], h3 i _ (by simp [hi2]), ty, els.set i cs, fun i' m => (i' < i ∧ J i' m) ∨ (i' = i ∧ Rng h.next h'.next m), by simp [Heap.set], by simp [h2], ?_, ?_, ?_, ?_⟩
  · intro i' el he
    by_cases hii : i = i'
    · subst hii; simp [hi2] at he; subst he; exact ht.len
    · rw [List.getElem?_set_ne hii] at he; exact h3 i' el he
  · intro i' x' el hlt hx' he
    by_cases hii : i = i'
    · subst hii
      simp [hi2] at he; subst he
      rw [hx] at hx'; cases hx'
      exact (ht.mono fun m hm => .inr ⟨rfl, hm⟩).frame fun m hm => by
        have hne : m ≠ id := by rcases hm with ⟨h8, _⟩ | ⟨_, hm⟩; omega; have := hm.1; omega
        simp [Heap.set, Tr.get_put_ne _ _ hne]
    · rw [List.getElem?_set_ne hii] at he
      exact ((h4 i' x' el (by omega) hx' he).mono fun m hm => .inl ⟨by omega, hm⟩).frame fun m hm => by
        rcases hm with ⟨_, hm⟩ | ⟨h8, _⟩
        · have h9 := h5 i' m hm
          have hne : m ≠ id := by omega
          simp only [Heap.set, Tr.get_put_ne _ _ hne]
          exact hk.2 m h9.2
        · omega
  · rintro i' m (⟨_, hm⟩ | ⟨_, hm⟩)
    · have := h5 i' m hm; exact ⟨this.1, by simp [Heap.set]; omega⟩
    · exact ⟨by have := hm.1; omega, by have := hm.2; simp [Heap.set]; omega⟩
  · rintro i' i'' m (⟨_, hm⟩ | ⟨_, hm⟩) (⟨_, hm'⟩ | ⟨_, hm'⟩)
    · exact h6 i' i'' m hm hm'
    · have := h5 i' m hm; have := hm'.1; omega
    · have := h5 i'' m hm'; have := hm.1; omega
    · omega

/-- a call that hands back a core of its own -/
def MkQ (H : Heap) (x : Cr) : V → Heap → Prop := fun r H' => ∃ cs, r = .agg cs ∧ ThC H' (x.kd + 1) x cs (Rng H.next H'.next) ∧ Keep H.next H H'

theorem pv_of_mk {P : Program} {F : FuncId} {ds : List V} {x : Cr} (hd : x.kd + 1 ≤ frzDepth) (h : HV P F ds Heap.empty (MkQ Heap.empty x)) : PV P F ds (.agg x.enc) :=
  PV_of_HV h fun r h' ⟨cs, hr, ht, _⟩ => by
    subst hr
    obtain ⟨ids, hf⟩ := ht.frz hd
    simp [hf]

/-! ### names -/
def encT (l : List Txt) : C := .dv (l.map fun s => [.str s])
@[simp] theorem frz_encT {h : Heap} {n : Nat} {k : List Txt} : AI.frz h n (encT k) = some (encT k, []) := by simp [encT]

theorem AccD.cores {h : Heap} {ty : Nat} {k : List Cr} {c : C} (a : AccD h ty 5 (k.map Cr.enc) c) : ∃ ids, AI.frz h frzDepth c = some (encL k, ids) := by
  rw [frzDepth_eq]
  refine AccD.frz (n := 4194303) a fun el hel c hc => ?_
  obtain ⟨x, _, rfl⟩ := List.mem_map.1 hel
  obtain ⟨a, b, s, t, kk⟩ := x
  rw [enc_mk] at hc
  simp only [encL, List.mem_cons, List.not_mem_nil, or_false] at hc
  rcases hc with rfl | rfl | rfl | rfl | rfl <;> simp
theorem AccD.names {h : Heap} {ty : Nat} {l : List Txt} {c : C} (a : AccD h ty 1 (l.map fun s => [.str s]) c) : ∃ ids, AI.frz h frzDepth c = some (encT l, ids) := by
  rw [frzDepth_eq]
  refine AccD.frz (n := 4194303) a fun el hel c hc => ?_
  obtain ⟨x, _, rfl⟩ := List.mem_map.1 hel
  simp only [List.mem_cons, List.not_mem_nil, or_false] at hc
  subst hc; simp
theorem pvQ_names {h : Heap} {ty : Nat} {l : List Txt} {c : C} (a : AccD h ty 1 (l.map fun s => [.str s]) c) : pvQ (.one (encT l)) (.one c) h := by
  obtain ⟨ids, h1⟩ := a.names; simp [pvQ, h1]
theorem pvQ_core {h : Heap} {ty : Nat} {a b : Int} {s t : Txt} {k : List Cr} {c : C} (ac : AccD h ty 5 (k.map Cr.enc) c) : pvQ (.agg (Cr.mk a b s t k).enc) (.agg [.int .i64 a, .int .i64 b, .str s, .str t, c]) h := by
  obtain ⟨ids, h1⟩ := ac.cores; simp [pvQ, h1, enc_mk]

/-- the names that a core binds in a kid -/
def binds : Cr → Int → List Txt
  | .mk op _ s t _, i => if op = 3 ∨ (op = 5 ∧ i = 1) ∨ (op = 6 ∧ i = 1) then [s] else if op = 6 then [s, t] else []

/-- a kid of a readable list: its place, and what is there -/
theorem Rd.at {h : Heap} {k : List Cr} {c : C} (r : Rd h (encL k) c) {i : Nat} (hi : i < k.length) :
    ∃ p l1 l2 cs, idxV h 5 (.one c) (.one (.int .i64 i)) = some (.one p, h, FP.read l1) ∧ loadV h (some 5) (.one p) = some (.agg cs, h, FP.read l2) ∧ cs.length = 5 ∧ RdC h k[i] cs := by
  have hx : k[i]? = some k[i] := by simp [hi]
  rcases r.look with rfl | ⟨rfl, rfl⟩ | ⟨id, g, ty, sz, els, rfl, hm, hid, hl, h5, hd⟩
  · refine ⟨.dp k[i].enc 0, [], [], k[i].enc, ?_, ?_, enc_len _, ?_⟩
    · simp [encL, hi, FP.read, FP.no]
    · simp [FP.read, FP.no]
    · generalize k[i] = x
      obtain ⟨a, b, s, t, kk⟩ := x
      exact ⟨_, by rw [enc_mk], .inl rfl⟩
  · simp at hi
  · have hi2 : i < els.length := by omega
    have hr := hd i k[i] els[i] hx (by simp [hi2])
    have hl5 : els[i].length = 5 := by
      generalize els[i] = el at hr
      generalize k[i] = x at hr
      obtain ⟨a, b, s, t, kk⟩ := x
      obtain ⟨c, rfl, _⟩ := hr
      rfl
    have := h5 i hi
    subst this
    refine ⟨.ptr id g i 0, [id], [id], els[i], ?_, ?_, hl5, hr⟩
    · simp [Heap.at_of hm, hi]
    · simp [Heap.at_of hm, hi2, hl5]
      rw [← hl5, List.take_length]
theorem Rd.len {h : Heap} {k : List Cr} {c : C} (r : Rd h (encL k) c) : lenOf false (.one c) = some k.length := by
  rcases r.look with rfl | ⟨rfl, rfl⟩ | ⟨id, g, ty, sz, els, rfl, hm, hid, hl, h5, hd⟩
  · simp [encL]
  · simp
  · simp

theorem RdC.keep {h h' : Heap} {x : Cr} {cs : List C} {n : Nat} (r : RdC h x cs) (k : Keep n h h') (hn : h.next ≤ n) : RdC h' x cs := by
  obtain ⟨a, b, s, t, kk⟩ := x
  obtain ⟨c, rfl, r⟩ := r
  exact ⟨c, rfl, r.keep k hn⟩
theorem RdC.len {h : Heap} {x : Cr} {cs : List C} (r : RdC h x cs) : cs.length = 5 := by
  obtain ⟨a, b, s, t, kk⟩ := x
  obtain ⟨c, rfl, r⟩ := r
  rfl
theorem RdC.deep {h : Heap} {x : Cr} : RdC h x x.enc := by
  obtain ⟨a, b, s, t, kk⟩ := x
  exact ⟨_, by rw [enc_mk], .inl rfl⟩
theorem RdC.frz {h : Heap} {x : Cr} {cs : List C} (r : RdC h x cs) : ∃ ids, frzCells h cs = some (x.enc, ids) := by
  obtain ⟨a, b, s, t, kk⟩ := x
  obtain ⟨c, rfl, r⟩ := r
  exact r.cells

end Go.AI

/- From what can be read as data to frozen cells. -/
namespace Go.AI
open Go Go.RowKit
set_option linter.unusedSimpArgs false

theorem mapM_somes {α β : Type} {f : α → Option β} : ∀ {l : List α} {ys : List β}, l.mapM f = some ys → ys.length = l.length ∧ ∀ (i : Nat) (x : α), l[i]? = some x → ∃ y, ys[i]? = some y ∧ f x = some y
  | [], ys, h => by simp at h; subst h; simp
  | x :: r, ys, h => by
    simp only [List.mapM_cons, Option.bind_eq_bind, Option.bind_eq_some_iff] at h
    obtain ⟨y, hy, ys', hys, h⟩ := h
    cases h
    obtain ⟨h1, h2⟩ := mapM_somes hys
    refine ⟨by simp [h1], fun i x' hx => ?_⟩
    cases i with
    | zero => simp at hx; subst hx; exact ⟨y, rfl, hy⟩
    | succ i => simpa using h2 i x' (by simpa using hx)

theorem cells_some {w : World} {base : Nat} {a : Addr} {n : Nat} {vs : List Value} (h : w.cells? base a n = some vs) : vs.length = n ∧ ∀ i, i < n → ∃ v, vs[i]? = some v ∧ w.cell? (a.add i) = some v := by
  unfold World.cells? at h
  split at h
  · obtain ⟨h1, h2⟩ := mapM_somes h
    refine ⟨by simpa using h1, fun i hi => ?_⟩
    have := h2 i i (by simp [hi])
    exact this
  · cases h

theorem cell_spot {w : World} {a : Addr} {v : Value} (h : w.cell? a = some v) : a.spot = none := by
  unfold World.cell? at h
  cases hs : a.spot with
  | none => rfl
  | some x =>
    split at h
    · rw [hs] at h; simp at h
    · cases h

/-- in memory as it stood -/
def Old (w : World) : Nat → Prop := fun b => b < w.heap.size

/-- a slice's elements as they are read: each has cells of its own -/
theorem slice_DR {w : World} {base s : Nat} {a : Addr} {len cap : Nat} (hs : 0 < s) (hc : len ≤ cap) (xs : List (List C)) (hl : xs.length = len) (hxs : ∀ el ∈ xs, el.length = s)
    (hx : ∀ (i : Nat) (el : List C), xs[i]? = some el → ∃ vs, w.cells? base (a.add (i * s)) s = some vs ∧ ∀ (j : Nat) (c : C) (v : Value), el[j]? = some c → vs[j]? = some v → DR w.heap (Old w) c v) :
    DR w.heap (Old w) (.dv xs) (.slice (some a) len cap) := by
  by_cases h0 : len = 0
  · subst h0
    have : xs = [] := List.length_eq_zero_iff.1 hl
    subst this
    exact .dv0 (some a) cap
  · have hx0 : 0 < xs.length := by omega
    have hspot : a.spot = none := by
      obtain ⟨vs, h1, _⟩ := hx 0 xs[0] (by simp [hx0])
      obtain ⟨v, _, h2⟩ := (cells_some h1).2 0 hs
      simp [Addr.add] at h2
      exact cell_spot h2
    obtain ⟨b, off, sp⟩ := a
    simp at hspot
    subst hspot
    have key : ∀ (i j : Nat) (el : List C) (c : C), xs[i]? = some el → el[j]? = some c → ∃ v, rd w.heap b (off + i * s + j) = some v ∧ DR w.heap (Old w) c v := by
      intro i j el c he hj
      obtain ⟨vs, h1, h2⟩ := hx i el he
      have hjs : j < s := by rw [← hxs el (List.mem_of_getElem? he)]; exact (List.getElem?_eq_some_iff.1 hj).1
      obtain ⟨v, h3, h4⟩ := (cells_some h1).2 j hjs
      refine ⟨v, ?_, h2 j c v hj h3⟩
      rw [← cell_rd]
      have : (((⟨b, off, none⟩ : Addr).add (i * s)).add j) = ⟨b, off + i * s + j, none⟩ := by
        unfold Addr.add; split <;> split <;> simp_all <;> omega
      rw [← this]; exact h4
    rw [← hl]
    refine .dv xs b off cap s (fun i j => (rd w.heap b (off + i * s + j)).getD .nilIface) ?_ (by omega) (fun i el he => hxs el (List.mem_of_getElem? he)) (fun i el j c he hj => ?_) fun i el j c he hj => ?_
    · have he0 : xs[0]? = some xs[0] := by simp [hx0]
      have hl0 := hxs xs[0] (List.getElem_mem hx0)
      obtain ⟨v, h1, _⟩ := key 0 0 xs[0] (xs[0][0]'(by omega)) he0 (by simp)
      exact rd_lt h1
    · obtain ⟨v, h1, _⟩ := key i j el c he hj; rw [h1]; rfl
    · obtain ⟨v, h1, h2⟩ := key i j el c he hj; rw [h1]; exact h2

theorem list_choose {α : Type} {R : Nat → α → Prop} : ∀ (n : Nat), (∀ i, i < n → ∃ x, R i x) → ∃ l : List α, l.length = n ∧ ∀ (i : Nat) (x : α), l[i]? = some x → R i x
  | 0, _ => ⟨[], rfl, by simp⟩
  | n + 1, h => by
    obtain ⟨l, h1, h2⟩ := list_choose n fun i hi => h i (by omega)
    obtain ⟨x, hx⟩ := h n (by omega)
    refine ⟨l ++ [x], by simp [h1], fun i y hy => ?_⟩
    by_cases hi : i < n
    · rw [List.getElem?_append_left (by omega)] at hy; exact h2 i y hy
    · rw [List.getElem?_append_right (by omega)] at hy
      have : i = n := by
        have := (List.getElem?_eq_some_iff.1 hy).1
        simp at this; omega
      subst this
      simp [h1] at hy; subst hy; exact hx

theorem weights_all_mem {P : Program} {H : Type} {e : TypeId} : ∀ {l : List (DataW H)} {d : DataW H}, d ∈ l → ∀ n ∈ d.weights P e, n ∈ DataW.weightsAll P e l
  | x :: r, d, h, n, hn => by
    rw [DataW.weightsAll]
    rcases List.mem_cons.1 h with rfl | h
    · exact List.mem_append_left _ hn
    · exact List.mem_append_right _ (weights_all_mem h n hn)

theorem small_of {n : Nat} (h : n ≤ reachBytes) : n < 900000000000000 := by unfold reachBytes at h; omega

structure CoreTy (P : Program) (tc tk ti ts : TypeId) : Prop where
  core : ∃ fs : Array Field, P.underlying tc = some (.struct fs) ∧ fs.toList.map (fun f => (f.type, f.offset)) = [(ti, 0), (ti, 1), (ts, 2), (ts, 3), (tk, 4)]
  cells : P.cellsOf tc = 5 ∧ P.cellsOf ti = 1 ∧ P.cellsOf ts = 1 ∧ P.cellsOf tk = 1
  int : P.underlying ti = some (.int .i64)
  str : P.underlying ts = some .string
  kids : P.underlying tk = some (.slice tc)
  bytes : 1 ≤ P.bytesOf tc

theorem trod_core {P : Program} {tc tk ti ts : TypeId} (T : CoreTy P tc tk ti ts) {H : Type} {enc : TypeId × Value → H} {w : World} :
    ∀ (fuel : Nat) (cs : List Value) (d : DataW H) (ps : List MemPlace), DataW.trod enc P w 0 (fun _ => true) true fuel tc cs = some (d, ps) →
    ∃ x : Cr, cs.length = 5 ∧ (∀ (j : Nat) (c : C) (v : Value), x.enc[j]? = some c → cs[j]? = some v → DR w.heap (Old w) c v) ∧ ((d.weights P tc).all (· ≤ reachBytes) = true → x.lim)
  | 0, cs, d, ps, h => by simp [DataW.trod] at h
  | fuel + 1, cs, d, ps, h => by
    obtain ⟨fs, hfs, hf⟩ := T.core
    obtain ⟨c5, ci, cst, ck⟩ := T.cells
    rw [DataW.trod.eq_def] at h
    simp only [hfs] at h
    split at h
    case isFalse => cases h
    rename_i hlen
    rw [c5] at hlen
    simp only [Option.map_eq_some_iff, Prod.mk.injEq] at h
    obtain ⟨xs, hxs, hd, hp⟩ := h
    match cs, hlen with
    | [v0, v1, v2, v3, v4], _ =>
    match hfl : fs.toList with
    | [] => rw [hfl] at hf; simp at hf
    | [_] => rw [hfl] at hf; simp at hf
    | [_, _] => rw [hfl] at hf; simp at hf
    | [_, _, _] => rw [hfl] at hf; simp at hf
    | [_, _, _, _] => rw [hfl] at hf; simp at hf
    | _ :: _ :: _ :: _ :: _ :: _ :: _ => rw [hfl] at hf; simp at hf
    | [g0, g1, g2, g3, g4] =>
    rw [hfl] at hf hxs
    simp only [List.map_cons, List.map_nil, List.cons.injEq, Prod.mk.injEq, and_true] at hf
    obtain ⟨⟨t0, o0⟩, ⟨t1, o1⟩, ⟨t2, o2⟩, ⟨t3, o3⟩, ⟨t4, o4⟩⟩ := hf
    obtain ⟨hxl, hxs⟩ := mapM_somes hxs
    obtain ⟨y0, z0, e0⟩ := hxs 0 g0 rfl
    obtain ⟨y1, z1, e1⟩ := hxs 1 g1 rfl
    obtain ⟨y2, z2, e2⟩ := hxs 2 g2 rfl
    obtain ⟨y3, z3, e3⟩ := hxs 3 g3 rfl
    obtain ⟨y4, z4, e4⟩ := hxs 4 g4 rfl
    rw [t0, o0, ci] at e0
    rw [t1, o1, ci] at e1
    rw [t2, o2, cst] at e2
    rw [t3, o3, cst] at e3
    rw [t4, o4, ck] at e4
    simp only [List.drop_succ_cons, List.drop_zero, List.take_succ_cons, List.take_zero] at e0 e1 e2 e3 e4
    obtain ⟨n0, q0, _⟩ := DataW.trod_int T.int e0
    obtain ⟨n1, q1, _⟩ := DataW.trod_int T.int e1
    obtain ⟨s2, q2, x2, _⟩ := DataW.trod_string T.str e2
    obtain ⟨s3, q3, x3, _⟩ := DataW.trod_string T.str e3
    cases q0; cases q1; cases q2; cases q3
    have hxsl : xs = [y0, y1, y2, y3, y4] := by
      match xs, hxl with
      | [a0, a1, a2, a3, a4], _ => simp at z0 z1 z2 z3 z4; simp [z0, z1, z2, z3, z4]
    have hk : ∃ k : List Cr, DR w.heap (Old w) (encL k) v4 ∧ ((y4.1.weights P tk).all (· ≤ reachBytes) = true → k.length < 900000000000000 ∧ limL k) := by
      rcases DataW.trod_slice T.kids e4 with ⟨q4, x4⟩ | ⟨a, len, cap, elems, rest, n, hn, q4, x4, _, hlc, _, hel, hat, hsp, _⟩
      · cases q4
        exact ⟨[], .dv0 none 0, fun _ => ⟨by simp, by simp [limL]⟩⟩
      · cases q4
        have hR : ∀ i, i < len → ∃ x : Cr, ∃ vs e, w.cells? 0 (a.add (i * 5)) 5 = some vs ∧ elems[i]? = some e ∧ (∀ (j : Nat) (c : C) (v : Value), x.enc[j]? = some c → vs[j]? = some v → DR w.heap (Old w) c v) ∧ ((e.1.weights P tc).all (· ≤ reachBytes) = true → x.lim) := by
          intro i hi
          have h1 := hat i hi
          rw [c5] at h1
          have h2 : elems[i]? = some elems[i] := by simp [hel, hi]
          rw [h2, Option.bind_eq_some_iff] at h1
          obtain ⟨vs, h3, h4⟩ := h1
          obtain ⟨x, _, h6, h7⟩ := trod_core T n vs elems[i].1 elems[i].2 h4
          exact ⟨x, vs, elems[i], h3, h2, h6, h7⟩
        obtain ⟨k, hkl, hkR⟩ := list_choose len hR
        refine ⟨k, slice_DR (s := 5) (base := 0) (by omega) hlc (k.map Cr.enc) (by simp [hkl]) (by simp) fun i el he => ?_, fun hw => ?_⟩
        · simp only [List.getElem?_map, Option.map_eq_some_iff] at he
          obtain ⟨x, hx, rfl⟩ := he
          obtain ⟨vs, e, h1, _, h3, _⟩ := hkR i x hx
          exact ⟨vs, h1, h3⟩
        · rw [x4] at hw
          simp only [DataW.weights, T.kids, List.all_cons, List.all_append, Bool.and_eq_true, decide_eq_true_eq] at hw
          obtain ⟨hw1, hw2, _⟩ := hw
          refine ⟨?_, limL_of fun x hx => ?_⟩
          · simp only [List.length_map] at hw1
            have hb := T.bytes
            have : k.length * 1 ≤ (elems.length + rest.length) * P.bytesOf tc := Nat.mul_le_mul (by omega) hb
            exact small_of (by omega)
          · obtain ⟨i, hi, rfl⟩ := List.getElem_of_mem hx
            obtain ⟨vs, e, _, h2, _, h4⟩ := hkR i k[i] (by simp [hi])
            refine h4 (List.all_eq_true.2 fun m hm => List.all_eq_true.1 hw2 m (weights_all_mem (List.mem_map.2 ⟨e, List.mem_of_getElem? h2, rfl⟩) m hm))
    obtain ⟨k, hk1, hk2⟩ := hk
    refine ⟨.mk n0 n1 s2.data.toList s3.data.toList k, rfl, ?_, ?_⟩
    · intro j c v hc hv
      rw [enc_mk] at hc
      match j with
      | 0 => simp at hc hv; subst hc hv; exact .int ..
      | 1 => simp at hc hv; subst hc hv; exact .int ..
      | 2 => simp at hc hv; subst hc hv; exact .str ..
      | 3 => simp at hc hv; subst hc hv; exact .str ..
      | 4 => simp at hc hv; subst hc hv; exact hk1
      | n + 5 => simp at hc
    · intro hw
      rw [← hd, hxsl] at hw
      simp only [DataW.weights, hfs, hfl, List.map_cons, List.map_nil, DataW.weightsEach, t0, t1, t2, t3, t4, x2, x3, List.all_append, List.all_cons, List.all_nil, Bool.and_eq_true, decide_eq_true_eq, Bool.and_true] at hw
      obtain ⟨_, _, h2, h3, h4⟩ := hw
      obtain ⟨h5, h6⟩ := hk2 (by simpa using h4)
      exact ⟨small_of h2, small_of h3, h5, h6⟩
termination_by fuel => fuel

theorem Has.enter {P : Program} {F : FuncId} {af : AFun} (h : Has P F af) (args : Array Value) (w : World) : (callFunc F args).run P w = .ok (.enter F args) w := by
  obtain ⟨_, c, f, hf, hc⟩ := h
  obtain ⟨body, hb, h1, h2, h3, h4, h5, hname⟩ := compileFn_ok hc
  have hname' : ¬ f.name = "runtime.NumGoroutine" := by simpa using hname
  simp [callFunc, hf, hname', hb]

theorem PV.calls {P : Program} {F : FuncId} {af : AFun} (h : Has P F af) {ds : List V} {b : Bool} (p : PV P F ds (.one (.bool b))) (w : World) (cargs : Array Value)
    (ha : VRs w.heap (Old w) mu0 mu0 Heap.empty ds cargs.toList) : Calls P F cargs w fun e w' => e = .returned (.bool b) ∧ Below w.heap.size w w' := by
  rcases p w (Old w) cargs (fun _ h => h) ha with ⟨_, h1⟩ | ⟨val, w', h1, _⟩
  · refine h1.mono ?_
    rintro e w' ⟨val, S', rfl, hv, hs, hk, _, _, _, hsm⟩
    refine ⟨?_, hsm.1, hsm.2.1, hsm.2.2, hs, hk⟩
    cases hv with
    | one hc => cases hc with
      | deep hd => cases hd; rfl
  · rw [h.enter] at h1; cases h1

theorem VRs_nil {hp : Array Go.Obj} {S : Nat → Prop} {μ K : Nat → Nat} {h : Heap} : VRs hp S μ K h [] [] := ⟨rfl, fun _ _ _ h => by simp at h⟩
theorem VRs_cons {hp : Array Go.Obj} {S : Nat → Prop} {μ K : Nat → Nat} {h : Heap} {v : V} {x : Value} {vs : List V} {xs : List Value} (h1 : VR hp S μ K h v x) (h2 : VRs hp S μ K h vs xs) : VRs hp S μ K h (v :: vs) (x :: xs) :=
  ⟨by simp [h2.1], fun i v' x' hv hx => by
    cases i with
    | zero => simp at hv hx; subst hv hx; exact h1
    | succ i => exact h2.2 i v' x' (by simpa using hv) (by simpa using hx)⟩
theorem VR_deep {w : World} {c : C} {v : Value} (h : DR w.heap (Old w) c v) : VR w.heap (Old w) mu0 mu0 Heap.empty (.one c) v := .one (.deep h)
theorem VR_core {w : World} {x : Cr} {cs : Array Value} (hl : cs.toList.length = 5) (h : ∀ (j : Nat) (c : C) (v : Value), x.enc[j]? = some c → cs.toList[j]? = some v → DR w.heap (Old w) c v) : VR w.heap (Old w) mu0 mu0 Heap.empty (.agg x.enc) (.agg cs) :=
  .agg ⟨by rw [enc_len, hl], fun i c v h1 h2 => .deep (h i c v h1 h2)⟩

/-- a core that came in -/
theorem open_core {P : Program} {tc tk ti ts : TypeId} (T : CoreTy P tc tk ti ts) {H : Type} {enc : TypeId × Value → H} {w : World} {r : Reach} {base : Nat} {v : Value} {d : DataW H} {ps : List MemPlace} (hval : Value.okWide P w r base tc v)
    (h : DataW.Trod enc P w 0 (fun _ => true) true tc v d ps) : ∃ x : Cr, VR w.heap (Old w) mu0 mu0 Heap.empty (.agg x.enc) v ∧ ((d.weights P tc).all (· ≤ reachBytes) = true → x.lim) := by
  obtain ⟨fs, hfs, _⟩ := T.core
  obtain ⟨cs, rfl, _⟩ := WideShapes.okWide_struct hfs hval
  obtain ⟨fuel, hf⟩ := h
  obtain ⟨x, h1, h2, h3⟩ := trod_core T fuel _ d ps hf
  exact ⟨x, VR_core h1 h2, h3⟩

end Go.AI
