import PyProof.Rows.All
import Wide.All
import OpenK.AllK
import Wide.FinOn
import HandS.ForMost
import HandS.Exc
import HandS.ExcCtx
import HandS.HotCalls
import HandS.Flow
import HandS.ExcOwn
import HandS.ExcInit
import HandS.WordsExc
import HandS.Wide
import HandS.WideBits
import HandS.TupAny
import HandS.IsInst
import HandS.Conv
import HandS.TryMany
import HandS.TryOnly
import HandS.ExcField
import HandS.ExcIs
import HandS.OwnEq
import HandS.Star
import OpenK.KOps
import OpenK.KMeth
import HandS.Iter
import PyProof.Draws
import PyProof.EnumMake
import HandS.TupLe
import HandS.Head0
import HandS.Head1
import HandS.Head2
import HandS.HeadEnd
import HandS.HeadHook1
import HandS.HeadHook2
import HandS.Style
import HandS.StrMore
import HandS.Replace
import HandS.TupMul
import PyProof.StrLawsIn
import HandS.FStr
import HandS.More
import PyProof.FString3
import HandS.Defaults
import HandS.SetFor
import HandS.Strs
import HandS.DictTup
import HandS.HeadHook3
import PySem.Challenge.RW_romwright_k17_code_words_back
set_option Elab.async false
set_option linter.all false
set_option maxRecDepth 100000
set_option maxHeartbeats 4000000
/-! Within an except suite: calls of defs, comprehensions over lists and tuples. -/
namespace Zh
open PySem PySem.Spec PyProof.Rows L2 L2H HotX
/-- the handled exception stands as it is, whatever is done -/
def HotW (X : Cx) : Prop := ∃ p : Addr × Obj, Hot1 X.A p ∧ ∀ pins σ H s, Inv X pins σ H s → PinOk X.stack H s p ∧ p.1 ≠ X.env.locals ∧ p.1 ∉ X.fs
theorem HotW.of {X : Cx} (c : HotC X) : HotW X := by
  obtain ⟨p, h, hp⟩ := c
  refine ⟨p, h, fun pins σ H s I => ?_⟩
  obtain ⟨a1, a2, a3, a4, a5⟩ := I.pin p (List.mem_append_left _ hp)
  exact ⟨⟨a1, a2, fun hm => (List.mem_cons.mp (I.stkSub p.1 hm)).elim a3 a4, a5⟩, a3, a4⟩
theorem HotW.at {X : Cx} (c : HotW X) {pins : List (Addr × Obj)} {σ : L2.St} {H : Hp} {s : Shared} (I : Inv X pins σ H s) : ∃ x1, HotAt X.A x1 s.heap := by
  obtain ⟨p, ⟨hh, v1, e1, c1⟩, k⟩ := c
  exact ⟨p.1, hh, p.2, v1, (k _ _ _ _ I).1.get, e1, c1⟩
/-- a further pin: the handled exception -/
theorem HotW.pin {X : Cx} (c : HotW X) : ∃ p : Addr × Obj, Hot1 X.A p ∧ ∀ pins σ H s, Inv X pins σ H s → Inv X (p :: pins) σ H s := by
  obtain ⟨p, h, k⟩ := c
  refine ⟨p, h, fun pins σ H s I => I.pins_of fun q hq => ?_⟩
  rcases List.mem_cons.mp hq with rfl | hq
  · obtain ⟨a, b, d⟩ := k _ _ _ _ I
    exact ⟨a.get, a.free, b, d, a.nocell⟩
  · exact I.pin q (List.mem_append_right _ hq)
theorem HotW.blk {X : Cx} {p : Addr × Obj} (h : Hot1 X.A p) {pins : List (Addr × Obj)} {σ : L2.St} {H : Hp} {s : Shared} (I : Inv X (p :: pins) σ H s) {scope : Scope} {cenv : PySem.Env} {fp : List Addr} (hf : p.1 ∉ fp) (hL : s.heap.objs.size ≤ cenv.locals) : HotW (X.blk s H scope cenv fp) := by
  obtain ⟨a1, a2, a3, a4, a5⟩ := I.pin p (List.mem_append_right _ (List.mem_cons_self ..))
  have nofr : p.1 ∉ frs X.stack := fun hm => (List.mem_cons.mp (I.stkSub p.1 hm)).elim a3 a4
  refine ⟨p, h, fun pins' σ' H' s' J => ⟨⟨J.base.keep p.1 p.2 a1 a2 nofr hf, J.base.free p.1 p.2 a1 a2 hf, nofr, a5⟩, fun e => ?_, nofr⟩⟩
  have := Heap.lt_size a1
  rw [e] at this
  exact absurd (Nat.lt_of_lt_of_le this hL) (Nat.lt_irrefl _)
/-- a place where comprehensions may stand -/
def Lv (X : Cx) : Prop := X.calm = true ∨ HotW X
/-! ### the end of a walk -/
section
variable {prog : Program} {w : World} {A : Around} {E : Value → Shared → Prop} {s : Shared}
theorem list_end {it l x1 : Addr} {i : Nat} {items : Array Value} {Q : Option Value → Shared → Prop} (hot : HotAt A x1 s.heap) (ne : x1 ≠ it) (hit : s.heap.IsListIter it l i) (hl : s.heap.IsList l items) (hx : items[i]? = none)
    (hQ : ∀ h', (∀ b o, b ≠ it → s.heap.get? b = some o → h'.get? b = some o) → Q none { s with heap := h' }) : wpAny (model prog w) A (pyNext (.ref it)) Q E s := by
  obtain ⟨o, ho, hc, hd⟩ := id hit
  obtain ⟨ol, hol, _, nl, hdl⟩ := hl
  obtain ⟨hh, o1, vs1, h1, d1, c1⟩ := hot
  unfold pyNext; refine wpAny_bind (wpAny_attempt (wpAny_callSpecial?_slot (name := Str.ofString "__next__") hit.typeIs slot_listiter_next (wpAny_call_entry slot_listiter_next hit.typeIs entry_listiter_next ?_ (args_listiter_next _))))
  show wpAny _ _ (field (.ref it) 0 >>= _) _ _ s; refine wpAny_bind (wpAny_field ho hd (x := .ref l) rfl ?_)
  show wpAny _ _ (if (Value.ref l == Value.none) = true then _ else _) _ _ s; rw [if_neg (show ¬ ((Value.ref l == Value.none) = true) from Bool.false_ne_true)]
  show wpAny _ _ (field (.ref it) 1 >>= _) _ _ s; refine wpAny_bind (wpAny_field ho hd (x := .int i 0) rfl ?_)
  show wpAny _ _ (seqItems? (.ref l) >>= _) _ _ s; refine wpAny_bind (wpAny_seqItems hol hdl ?_)
  simp only [Int.toNat_natCast, hx]; refine wpAny_bind (wpAny_rule (wpAny_bind (wpAny_setField ho hd (by simp) ?_)))
  show wpAny _ _ (newExc (.type "StopIteration") [] >>= _) _ _ _; refine wpAny_bind ?_; simp only [newExc, newTuple]
  have g1 : (s.heap.update it (Obj.mapFields (·.setIfInBounds 0 .none))).get? x1 = some o1 := (Heap.get?_update_other _ _ (Ne.symm ne)).trans h1
  refine wpAny_bind (wpAny_newObj_type ?_ (by size_fits)); refine wpAny_bind (m := firstArgMember _ _) (wpAny_of_eq (a := Value.none) (by first | rfl | (simp only [firstArgMember]; rfl)) ?_); refine wpAny_newObj_type ?_ (by size_fits)
  refine raiseNew_hot ⟨hh, o1, vs1, Heap.get?_push_of_some _ (Heap.get?_push_of_some _ g1), d1, c1⟩ (Nat.ne_of_lt (Heap.lt_size (Heap.get?_push_of_some _ g1))) (Heap.get?_push_size _ rfl) rfl (by first | (simp; done) | (simp; omega) | (simp only [Array.size_append]; simp; omega)) ?_
  refine wpAny_bind (wpAny_isInstance (T := "StopIteration") (b := true) ⟨_, Heap.get?_update_self _ (Heap.get?_push_size _ rfl) rfl, rfl⟩ isSubtype_stop ?_); refine wpAny_pure (hQ _ fun b o nb e => ?_)
  have e1 : (s.heap.update it (Obj.mapFields (·.setIfInBounds 0 .none))).get? b = some o := (Heap.get?_update_other _ _ (Ne.symm nb)).trans e
  rw [Heap.get?_update_other _ _ (Nat.ne_of_gt (Heap.lt_size (Heap.get?_push_of_some _ e1)))]; exact Heap.get?_push_of_some _ (Heap.get?_push_of_some _ e1)
theorem tuple_end {it l x1 : Addr} {i : Nat} {items : Array Value} {Q : Option Value → Shared → Prop} (hot : HotAt A x1 s.heap) (ne : x1 ≠ it) (hit : s.heap.IsTupleIter it l i) (hl : s.heap.IsTuple l items) (hx : items[i]? = none)
    (hQ : ∀ h', (∀ b o, b ≠ it → s.heap.get? b = some o → h'.get? b = some o) → Q none { s with heap := h' }) : wpAny (model prog w) A (pyNext (.ref it)) Q E s := by
  obtain ⟨o, ho, hc, hd⟩ := id hit
  obtain ⟨ol, hol, _, nl, hdl⟩ := hl
  obtain ⟨hh, o1, vs1, h1, d1, c1⟩ := hot
  unfold pyNext; refine wpAny_bind (wpAny_attempt (wpAny_callSpecial?_slot (name := Str.ofString "__next__") hit.typeIs F.slot_tuple_iterator_next (wpAny_call_entry F.slot_tuple_iterator_next hit.typeIs F.entry_tuple_iterator_next ?_ (F.args_tuple_iterator_next_1 _))))
  show wpAny _ _ (field (.ref it) 0 >>= _) _ _ s; refine wpAny_bind (wpAny_field ho hd (x := .ref l) rfl ?_)
  show wpAny _ _ (if (Value.ref l == Value.none) = true then _ else _) _ _ s; rw [if_neg (show ¬ ((Value.ref l == Value.none) = true) from Bool.false_ne_true)]
  show wpAny _ _ (field (.ref it) 1 >>= _) _ _ s; refine wpAny_bind (wpAny_field ho hd (x := .int i 0) rfl ?_)
  show wpAny _ _ (seqItems? (.ref l) >>= _) _ _ s; refine wpAny_bind (wpAny_seqItems hol hdl ?_)
  simp only [Int.toNat_natCast, hx]; refine wpAny_bind (wpAny_rule (wpAny_bind (wpAny_setField ho hd (by simp) ?_)))
  show wpAny _ _ (newExc (.type "StopIteration") [] >>= _) _ _ _; refine wpAny_bind ?_; simp only [newExc, newTuple]
  have g1 : (s.heap.update it (Obj.mapFields (·.setIfInBounds 0 .none))).get? x1 = some o1 := (Heap.get?_update_other _ _ (Ne.symm ne)).trans h1
  refine wpAny_bind (wpAny_newObj_type ?_ (by size_fits)); refine wpAny_bind (m := firstArgMember _ _) (wpAny_of_eq (a := Value.none) (by first | rfl | (simp only [firstArgMember]; rfl)) ?_); refine wpAny_newObj_type ?_ (by size_fits)
  refine raiseNew_hot ⟨hh, o1, vs1, Heap.get?_push_of_some _ (Heap.get?_push_of_some _ g1), d1, c1⟩ (Nat.ne_of_lt (Heap.lt_size (Heap.get?_push_of_some _ g1))) (Heap.get?_push_size _ rfl) rfl (by first | (simp; done) | (simp; omega) | (simp only [Array.size_append]; simp; omega)) ?_
  refine wpAny_bind (wpAny_isInstance (T := "StopIteration") (b := true) ⟨_, Heap.get?_update_self _ (Heap.get?_push_size _ rfl) rfl, rfl⟩ isSubtype_stop ?_); refine wpAny_pure (hQ _ fun b o nb e => ?_)
  have e1 : (s.heap.update it (Obj.mapFields (·.setIfInBounds 0 .none))).get? b = some o := (Heap.get?_update_other _ _ (Ne.symm nb)).trans e
  rw [Heap.get?_update_other _ _ (Nat.ne_of_gt (Heap.lt_size (Heap.get?_push_of_some _ e1)))]; exact Heap.get?_push_of_some _ (Heap.get?_push_of_some _ e1)
end
/-! ### walks -/
/-- one that is walked in a hot place -/
structure TurnW (P : Program) (w : World) (K : PySem.W.Frag) (tg : Expr) (J : It) (it : Addr) (tn : Nat → Heap → Prop) : Prop where
  obj : ∀ i h, tn i h → ∃ o, h.get? it = some o ∧ ∀ v, o.data ≠ .cell v
  keep : ∀ i h h', tn i h → (∀ o, h.get? it = some o → h'.get? it = some o) → tn i h'
  item : ∀ (X : Cx), X.prog = P → X.w = w → X.K = K → ∀ (i : Nat) (pins : List (Addr × Obj)) (s : Shared) (σ : L2.St) (H : Hp) (E : Value → Shared → Prop), Inv X pins σ H s → FpOk X pins H it → tn i s.heap → J.go i H →
    wpAny (model P w) X.A (pyNext (.ref it)) (fun r s1 => ∃ u, r = some u ∧ wpAny (model P w) X.A (letOwnedTupleGo tg (.ref it) u) (fun _ s2 => ∃ x H', Inv X pins σ H' s2 ∧ RelV x u ∧ J.yld i H x H' ∧ tn (i + 1) s2.heap ∧ H' it = none) E s1) E s
  done : ∀ (X : Cx), X.prog = P → X.w = w → X.K = K → HotW X → ∀ (i : Nat) (pins : List (Addr × Obj)) (s : Shared) (σ : L2.St) (H : Hp) (E : Value → Shared → Prop), Inv X pins σ H s → FpOk X pins H it → tn i s.heap → J.stop i H →
    wpAny (model P w) X.A (pyNext (.ref it)) (fun r s1 => r = none ∧ Inv X pins σ H s1) E s
  self : ∀ (A : Around) (i : Nat) (s : Shared) (Q E : Value → Shared → Prop), tn i s.heap → Q (.ref it) s → wpAny (model P w) A (pyIter (.ref it)) Q E s
theorem HotW.away {X : Cx} (c : HotW X) {pins : List (Addr × Obj)} {σ : L2.St} {H : Hp} {s : Shared} (I : Inv X pins σ H s) {it : Addr} {o : Obj} {a b : Value} (ho : s.heap.get? it = some o) (hd : o.data = .fields #[a, b]) : ∃ x1, HotAt X.A x1 s.heap ∧ x1 ≠ it := by
  obtain ⟨x1, hh, o1, vs, h1, d1, c1⟩ := c.at I
  refine ⟨x1, ⟨hh, o1, vs, h1, d1, c1⟩, fun e => ?_⟩
  rw [e, ho] at h1
  cases h1
  rw [hd] at d1
  cases d1
  simp at c1
theorem turnW_list {P : Program} {w : World} {K : PySem.W.Frag} {tg : Expr} (a it : Addr) : TurnW P w K tg (Itl K a) it (fun i h => h.IsListIter it a i) where
  obj := fun i h ⟨o, e, c, d⟩ => ⟨o, e, fun v z => by rw [d] at z; cases z⟩
  keep := fun i h h' st k => st.at fun o e => k o e
  item := fun X hP hw hK i pins s σ H E I hf st hg => by
    subst hP hw hK
    obtain ⟨xs, x, hq, hx⟩ := hg
    obtain ⟨its, rv, p, hz⟩ := I.list hq
    obtain ⟨u, hu, ru⟩ := rv.get hx
    obtain ⟨f0, f1, f2, f3, f4, f5⟩ := hf
    refine wpAny_pyNext_list_item st p.isList (x := u) (by simpa using hu) fun h' st' sb => ?_
    have J : Inv X pins σ H { s with heap := h' } := I.turned (t' := s.toks) (fun b o hb e => (sb.2 b hb).trans e) f0 f1 f3 f4 f5
    obtain ⟨o, e, c, d⟩ := id st'
    exact ⟨u, rfl, go_of (s := { s with heap := h' }) e c d (by decide) ⟨x, H, J, ru, ⟨rfl, fun ys hy => by rw [I.list_inj hy hq]; exact hx⟩, st', f0⟩⟩
  done := fun X hP hw hK hot i pins s σ H E I hf st hg => by
    subst hP hw hK
    obtain ⟨xs, hq, hx⟩ := hg
    obtain ⟨its, rv, p, hz⟩ := I.list hq
    obtain ⟨f0, f1, f2, f3, f4, f5⟩ := hf
    have hl := rv.length
    obtain ⟨o, ho, _, hd⟩ := id st
    obtain ⟨x1, hx1, ne⟩ := hot.away I ho hd
    exact list_end hx1 ne st p.isList (by simp; omega) fun h' eb => ⟨rfl, I.turned (t' := s.toks) (fun b o hb e => eb b o hb e) f0 f1 f3 f4 f5⟩
  self := fun _ _ _ _ _ st h => wpAny_pyIter_listiter st h
theorem turnW_tuple {P : Program} {w : World} {K : PySem.W.Frag} {tg : Expr} (a it : Addr) : TurnW P w K tg (Itt K a) it (fun i h => h.IsTupleIter it a i) where
  obj := fun i h ⟨o, e, c, d⟩ => ⟨o, e, fun v z => by rw [d] at z; cases z⟩
  keep := fun i h h' st k => st.at fun o e => k o e
  item := fun X hP hw hK i pins s σ H E I hf st hg => by
    subst hP hw hK
    obtain ⟨xs, x, hq, hx⟩ := hg
    obtain ⟨its, rv, p, hz⟩ := I.tuple hq
    obtain ⟨u, hu, ru⟩ := rv.get hx
    obtain ⟨f0, f1, f2, f3, f4, f5⟩ := hf
    refine wpAny_pyNext_tuple_item st (show s.heap.IsTuple a its.toArray from p) (x := u) (by simpa using hu) fun h' st' sb => ?_
    have J : Inv X pins σ H { s with heap := h' } := I.turned (t' := s.toks) (fun b o hb e => (sb.2 b hb).trans e) f0 f1 f3 f4 f5
    obtain ⟨o, e, c, d⟩ := id st'
    exact ⟨u, rfl, go_of (s := { s with heap := h' }) e c d (by decide) ⟨x, H, J, ru, ⟨rfl, fun ys hy => by rw [I.tuple_inj hy hq]; exact hx⟩, st', f0⟩⟩
  done := fun X hP hw hK hot i pins s σ H E I hf st hg => by
    subst hP hw hK
    obtain ⟨xs, hq, hx⟩ := hg
    obtain ⟨its, rv, p, hz⟩ := I.tuple hq
    obtain ⟨f0, f1, f2, f3, f4, f5⟩ := hf
    have hl := rv.length
    obtain ⟨o, ho, _, hd⟩ := id st
    obtain ⟨x1, hx1, ne⟩ := hot.away I ho hd
    exact tuple_end hx1 ne st (show s.heap.IsTuple a its.toArray from p) (by simp; omega) fun h' eb => ⟨rfl, I.turned (t' := s.toks) (fun b o hb e => eb b o hb e) f0 f1 f3 f4 f5⟩
  self := fun _ _ _ _ _ st h => wpAny_pyIter_tupleiter st h
def PIEW (X : Cx) (pins : List (Addr × Obj)) (σ : L2.St) (tg : Expr) (R : It → Hp → Prop) (v : Value) (s2 : Shared) : Prop :=
  ∃ (it : Addr) (tn : Nat → Heap → Prop) (J : It) (H' : Hp), v = .ref it ∧ Inv X pins σ H' s2 ∧ TurnW X.prog X.w X.K tg J it tn ∧ tn 0 s2.heap ∧ FpOk X pins H' it ∧ R J H'
structure PIW (X : Cx) (tg iter : Expr) (wi : TI) : Prop where
  run : ∀ (pins : List (Addr × Obj)) (s : Shared) (σ : L2.St) (H : Hp) (R : It → Hp → Prop), Inv X pins σ H s → wi σ H R →
    wpAny (model X.prog X.w) X.A (eval iter X.env) (fun v s1 => wpAny (model X.prog X.w) X.A (pyIter v) (PIEW X pins σ tg R) X.xe s1) X.xe s
section
variable {X : Cx} {tg : Expr}
theorem piW_list {l : Expr} {tl : TE} (hl : PE X l tl) : PIW X tg l (iList X.K tl) := ⟨fun pins s σ H R I h => thn (hl.run pins s σ H _ I h) fun v z ⟨x, G, J, r1, a, e, ⟨xs, hq⟩, q⟩ => by
  subst e
  cases r1
  obtain ⟨its, rv, p, hz⟩ := J.list hq
  exact wpAny_pyIter_list p.isList ⟨z.heap.objs.size, _, _, G, rfl, J.kept (t' := z.toks) fun b o e => Heap.get?_push_of_some _ e, turnW_list a _, ⟨_, Heap.get?_push_size _ rfl, rfl, rfl⟩, J.fpOk (Nat.le_refl _) (J.hok.fresh (Nat.le_refl _)), q⟩⟩
theorem piW_tup {l : Expr} {tl : TE} (hl : PE X l tl) : PIW X tg l (iTup X.K tl) := ⟨fun pins s σ H R I h => thn (hl.run pins s σ H _ I h) fun v z ⟨x, G, J, r1, a, e, ⟨xs, hq⟩, q⟩ => by
  subst e
  cases r1
  obtain ⟨its, rv, p, hz⟩ := J.tuple hq
  exact wpAny_pyIter_tuple (show z.heap.IsTuple a its.toArray from p) ⟨z.heap.objs.size, _, _, G, rfl, J.kept (t' := z.toks) fun b o e => Heap.get?_push_of_some _ e, turnW_tuple a _, ⟨_, Heap.get?_push_size _ rfl, rfl, rfl⟩, J.fpOk (Nat.le_refl _) (J.hok.fresh (Nat.le_refl _)), q⟩⟩
end
end Zh
/-! Within an except suite: comprehensions; calls. -/
namespace Zh
open PySem PySem.Spec PyProof.Rows L2 L2H HotX
section
variable {X : Cx}
/-- [elt for tg in iter] in a hot place -/
theorem pe_lcW {elt tg iter : Expr} {scope : Scope} {own : List (Str × Nat)} {pos : Pos} {wi : TI} {g : TG} {te : TE} (hot : HotW X) (hN : X.N.Nodup) (hi : PIW X tg iter wi) (ok : BlkOk X.N X.env.scope scope own)
    (hg : ∀ (s : Shared) (H : Hp) (C : Addr) (cl : List (Str × Addr)) (fp : List Addr), PG (X.blk s H scope (compEnvC scope cl C X.env) fp) tg g)
    (he : ∀ (s : Shared) (H : Hp) (C : Addr) (cl : List (Str × Addr)) (fp : List Addr), HotW (X.blk s H scope (compEnvC scope cl C X.env) fp) → PE (X.blk s H scope (compEnvC scope cl C X.env) fp) elt te)
    (hs : ∀ x, foldedSetIterable iter X.env x = pure x) : PE X (.ListComp elt [⟨tg, iter, [], 0⟩] scope pos) (tLc wi g tYes te (own.map (·.2))) := by
  refine ⟨fun pins0 s σ H Q I0 want => ?_⟩
  rw [eval_ListComp]
  obtain ⟨p, hp, more⟩ := hot.pin
  obtain ⟨pins, hpins⟩ : ∃ pins, pins = p :: pins0 := ⟨_, rfl⟩
  have I : Inv X pins σ H s := by rw [hpins]; exact more _ _ _ _ I0
  have fr : ∀ y ∈ scope.names, y.2 = .free → ∃ c, X.env.cells.lookup y.1 = some c := fun y hy e => (ok.free y hy e).elim (fun k => I.ok.has _ (.inl k)) fun k => I.ok.has _ (.inr k)
  refine wpAny_comprehension_free (use := none) rfl hs (closure_ok fr) ok.kind (fun y hy e => by rw [ok.uniq y hy, e]) (thn (hi.run pins s σ H _ I want) fun xv s1 hx => thn hx fun itv z ⟨it, tn, J, G, e, I2, T, t0, f2, q⟩ => ?_)
  subst e; refine wpAny_newObj_type (newEnv_comp ?_) (by show 0 ≤ sizeLine; decide)
  obtain ⟨L, hL⟩ : ∃ L, L = z.heap.objs.size := ⟨_, rfl⟩
  have nL : G L = none := I2.hok.fresh (Nat.le_of_eq hL.symm)
  obtain ⟨W, ⟨m0, w0⟩, turn⟩ := q L nL
  obtain ⟨z3, hz3⟩ : ∃ z3 : Shared, z3 = { z with heap := z.heap.push { cls := .type "list", data := .seq ([] : List Value).toArray } } := ⟨_, rfl⟩
  have hp3 : z3.heap = z.heap.push { cls := .type "list", data := .seq ([] : List Value).toArray } := by rw [hz3]
  have I3 : Inv X pins σ (upd G L (.lst [])) z3 := by
    rw [hz3]
    exact I2.laid (t' := z.toks) (fun b o e => Heap.get?_push_of_some _ e) (Nat.le_of_eq hL.symm) ⟨Nat.zero_le _, [], 0, .nil, by rw [hL]; exact Heap.get?_push_size _ rfl⟩
  obtain ⟨oit, eit, _⟩ := T.obj _ _ t0
  have ltIt := Heap.lt_size eit
  have f3 : FpOk X pins (upd G L (.lst [])) it ∧ it < z3.heap.objs.size := by
    refine ⟨⟨?_, f2.2⟩, by rw [hp3, Heap.size_push]; exact Nat.lt_succ_of_lt ltIt⟩
    rw [upd_ne (by rw [hL]; exact Nat.ne_of_lt ltIt)]
    exact f2.1
  have f3' : ∀ b ∈ [it], FpOk X pins (upd G L (.lst [])) b ∧ b < z3.heap.objs.size := fun b hb => by
    cases List.mem_singleton.mp hb; exact f3
  have t3 : tn 0 z3.heap := T.keep _ _ _ t0 fun o e => by rw [hp3]; exact Heap.get?_push_of_some _ e
  obtain ⟨C, hC⟩ : ∃ C, C = z3.heap.objs.size := ⟨_, rfl⟩
  obtain ⟨cl, hcl⟩ : ∃ cl, cl = cellsFrom (z3.heap.objs.size + 1) scope.names (cloFrom X.env.cells scope.names []) := ⟨_, rfl⟩
  have I4 := block_start I3 ok hN f3'
  rw [← hcl, ← hC] at I4
  have pg := hg z3 (upd G L (.lst [])) C cl [it]
  have hb : HotW (X.blk z3 (upd G L (.lst [])) scope (compEnvC scope cl C X.env) [it]) := HotW.blk (p := p) (pins := pins0) (σ := σ) hp (by rw [← hpins]; exact I3)
    (fun hm => (f3.1.2.2.2.2.2 p (List.mem_append_right _ (by rw [hpins]; exact List.mem_cons_self ..))) (List.mem_singleton.mp hm)) (by show z3.heap.objs.size ≤ C; omega)
  have pe := he z3 (upd G L (.lst [])) C cl [it] hb
  show codeAny _ _ (.compStart (.ListComp elt [⟨tg, iter, [], 0⟩] scope pos) 0 (.ref it) (.ref z.heap.objs.size) (compEnvC scope (cellsFrom ((z.heap.push { cls := .type "list", data := .seq ([] : List Value).toArray }).objs.size + 1) scope.names (cloFrom X.env.cells scope.names [])) (z.heap.push { cls := .type "list", data := .seq ([] : List Value).toArray }).objs.size X.env))
    (compPost (model X.prog X.w) X.A X.xe none (EP X pins0 σ Q) (.ref z.heap.objs.size) (z.heap.push { cls := .type "list", data := .seq ([] : List Value).toArray }).objs.size) { z with heap := pushCells ((z.heap.push { cls := .type "list", data := .seq ([] : List Value).toArray }).push { cls := .type "dict", data := .dict #[] }) scope.names }
  rw [← hp3, ← hcl, ← hC, ← hL]
  obtain ⟨ce, hce⟩ : ∃ ce, ce = compEnvC scope cl C X.env := ⟨_, rfl⟩
  have cL : ce.locals = C := by rw [hce]; rfl
  rw [← hce] at pg pe I4 hb ⊢
  obtain ⟨G3, hG3⟩ : ∃ G3, G3 = upd G L (.lst []) := ⟨_, rfl⟩
  rw [← hG3] at I3 I4 pg pe w0 f3 hb f3'
  obtain ⟨z4, hz4⟩ : ∃ z4 : Shared, z4 = { z with heap := pushCells (z3.heap.push { cls := .type "dict", data := .dict #[] }) scope.names } := ⟨_, rfl⟩
  have I4 : Inv (X.blk z3 G3 scope ce [it]) [] (wipe σ (own.map (·.2))) G3 z4 := by
    have e34 : z4 = { z3 with heap := pushCells (z3.heap.push { cls := .type "dict", data := .dict #[] }) scope.names } := by rw [hz4, hz3]
    rw [e34]; exact I4
  rw [← hz4]
  have t4 : tn 0 z4.heap := T.keep _ _ _ t3 fun o e => by rw [hz4]; exact pushCells_keeps _ _ _ _ (Heap.get?_push_of_some _ e)
  have stat : ∀ {τ : L2.St} {K : Hp} {y : Shared}, Inv (X.blk z3 G3 scope ce [it]) [] τ K y → K it = none → FpOk (X.blk z3 G3 scope ce [it]) [] K it := fun {τ K y} j hn =>
    ⟨hn, (j.ok.exf it (List.mem_singleton.mpr rfl)).1, j.ok.exfs it (List.mem_singleton.mpr rfl), .inl (List.mem_singleton.mpr rfl), fun x c e => (j.ok.exf it (List.mem_singleton.mpr rfl)).2 x c e, fun r hr => absurd (show r ∈ ([] : List (Addr × Obj)) ++ [] from hr) (by simp)⟩
  have loop : codeAny (model X.prog X.w) X.A (.compLoop (.ListComp elt [⟨tg, iter, [], 0⟩] scope pos) 0 (.ref it) (.ref L) ce) (compPost (model X.prog X.w) X.A X.xe none (EP X pins0 σ Q) (.ref L) C) z4 := by
    refine compLoop_any (fun n y => ∃ i K, Inv (X.blk z3 G3 scope ce [it]) [] (wipe σ (own.map (·.2))) K y ∧ tn i y.heap ∧ K it = none ∧ W i n K) ?_ m0 ⟨0, G3, I4, t4, f3.1.1, w0⟩
    rintro n y5 ⟨i, K5, I5, t5, n5, w5⟩
    rcases turn i n K5 w5 with ⟨stop, fin⟩ | ⟨go, Nx, hNx, step⟩
    · refine thnF (T.done (X.blk z3 G3 scope ce [it]) rfl rfl rfl hb i [] y5 _ K5 (fun _ _ => False) I5 (stat I5 n5) t5 stop) fun r y6 ⟨hr, I6⟩ => ?_
      subst hr
      have I7 : Inv X pins σ K5 y6 := I3.call' (ch := [it]) I6.os I6.base I6.hok I6.bare fun b hb' => by
        obtain ⟨a1, a2, a3, a4, a5, a6⟩ := (f3' b hb').1
        exact ⟨a4, a2, a5, a6⟩
      have I8 : Inv X pins0 σ K5 y6 := I7.pins_of fun q hq => I7.pin q (List.mem_append_right _ (by rw [hpins]; exact List.mem_cons_of_mem _ hq))
      have nC : K5 C = none := by rw [← cL]; exact I6.free
      obtain ⟨m, hn, _⟩ := I6.loc
      have hn : y6.heap.Ns ce.locals m := hn
      rw [cL] at hn
      obtain ⟨g0, g1, g2, g3, g4, g5⟩ : FpOk X pins0 K5 C := by
        rw [hC]
        have I3' : Inv X pins0 σ G3 z3 := I3.pins_of fun q hq => I3.pin q (List.mem_append_right _ (by rw [hpins]; exact List.mem_cons_of_mem _ hq))
        exact I3'.fpOk (Nat.le_refl _) (by rw [← hC]; exact nC)
      exact ⟨m, hn, fun h'' sb => ⟨.ref L, K5, I8.turned (t' := y6.toks) (fun b o hb' e => (sb.2 b hb').trans e) g0 g1 g3 g4 g5, rfl, fin⟩⟩
    · refine thnF (T.item (X.blk z3 G3 scope ce [it]) rfl rfl rfl i [] y5 _ K5 (fun _ _ => False) I5 (stat I5 n5) t5 go) fun r y6 ⟨u, hr, h6⟩ => ?_
      subst hr
      refine thnF h6 fun _ y7 ⟨x, K7, I7, r7, yl7, t7, n7⟩ => ?_
      obtain ⟨o7, e7, d7⟩ := T.obj _ _ t7
      have I7p : Inv (X.blk z3 G3 scope ce [it]) [(it, o7)] (wipe σ (own.map (·.2))) K7 y7 := I7.pins_of fun q hq => by
        cases List.mem_singleton.mp hq
        obtain ⟨a1, a2, a3, a4, a5, a6⟩ := stat I7 n7
        exact ⟨e7, a1, a2, a3, d7⟩
      refine thnF (pg.run _ y7 _ K7 x u _ I7p r7 (step x K7 yl7)) fun _ y8 ⟨τ, K8, I8, hw8, q8⟩ => wpAny_tests_nil ?_
      simp only [if_true]
      have q8 : te τ K8 fun y H4 => ∃ acc, H4 L = some (.lst acc) ∧ acc.length < sizeLine ∧ Nx (upd H4 L (.lst (acc ++ [y]))) := by
        have := q8
        unfold tYes at this
        simpa only [if_true] using this
      refine thnF (pe.run _ y8 τ K8 _ I8 q8) fun v y9 ⟨yv, K9, I9, r9, acc, at9, few, nx⟩ => app_ok (X := X.blk z3 G3 scope ce [it]) I9 at9 few r9 fun yy I10 => ?_
      obtain ⟨m', hm, w'⟩ := hNx _ nx
      have pn := I10.pin (it, o7) (List.mem_append_right _ (List.mem_singleton.mpr rfl))
      have len : (wipe σ (own.map (·.2))).length = τ.length := by rw [← hw8, wipe_length]
      refine ⟨m', hm, i + 1, _, Inv.weak (σ := τ) (I10.pins_of (pins' := []) fun q hq => nomatch hq) len (fun j v e => ?_), T.keep _ _ _ t7 fun o e => ?_, pn.2.1, w'⟩
      · rw [← hw8] at e
        exact (wipe_some e).1
      · rw [e7] at e
        cases e
        exact pn.1
  exact codeAny_compStart_list loop (T.self X.A 0 _ _ _ t4 loop)
/-! ### calls -/
section
variable {CX : CXT} {k : Nat} {f : Addr} {fd : FuncData} {ps : List Str} {sp : Sp} {E : L2.St → XK}
theorem run_fnW {pins : List (Addr × Obj)} {σ : L2.St} {H : Hp} {s : Shared} {Q : VK} {us : List Value} {vs : List V} (F : FnH X.prog X.w X.K X.mg X.base CX k f fd ps sp) (hr : RoomH k X.A) (hot : HotW X) (hb : Binds X.K fd ps []) (hx : PassesAt CX X σ (E σ))
    (I : Inv X pins σ H s) (r : Vals vs us) (h : sp vs H Q (E σ)) : wpAny (model X.prog X.w) X.A (call (.ref f) us) (EP X pins σ Q) X.xe s := by
  obtain ⟨p, h1, stay⟩ := hot
  have b := hb s us I.kIn (by rw [List.append_nil, ← r.length]; exact F.len _ _ _ _ h)
  rw [List.append_nil] at b
  refine wpAny_call (codeAny_mono (F.run X.A X.stack s H ⟨us, []⟩ us vs Q (E σ) p hr h1 (stay _ _ _ _ I).1 I.env0 b r h) fun z s' out => ?_)
  match z, out with
  | .error e, out => exact hx pins H s e s' I out
  | .ok (.ret u), out => exact I.after out
  | .ok .next, out => exact out.elim
  | .ok .brk, out => exact out.elim
  | .ok .cont, out => exact out.elim
theorem pe_callW {x : Str} {q pos : Pos} {e : Expr} {es : List Expr} {t : TA} (F : FnH X.prog X.w X.K X.mg X.base CX k f fd ps sp) (hr : RoomH k X.A) (hot : HotW X) (hg : Gl X x) (hm : X.mg x = some (.ref f)) (hk : PySem.W.keepIn X.K (.ref f) = true) (hb : Binds X.K fd ps [])
    (hx : ∀ σ, PassesAt CX X σ (E σ)) (ha : PA X (e :: es) t) (hdb : (x == ("__debug__" : Str)) = false) (he : starEach (e :: es) X.env = (false, eval e X.env) :: starEach es X.env) (hpl : (backTo pos (starEach es X.env)).any (·.1) = false) :
    PE X (.Call (.Name x q) (e :: es) [] pos) (tCallS sp E t) := ⟨fun pins s σ H Q I h => wpAny_Call_Name_kw (ld_glob I hg hm
  (PySem.W.callWith_K (h₀ := X.base) I.ok.mod.kin hk (thn (ha.run pos pins s σ H _ I h) fun us z ⟨vs, G, J, r, q⟩ => ⟨J.kIn, run_fnW F hr hot hb (hx σ) J r q⟩) he hpl) hdb)⟩
end
end
end Zh
/-! Deep data over the hand layer: what values are, all the way down, and weakest preconditions that speak of data alone. -/
namespace Zd
open PySem L2

/-! ### data -/
inductive D where
  | non | bl (b : Bool) | int (i : Int) | str (s : Str) | raw (v : V)
  | lst (ds : List D) | tup (ds : List D) | klst (ds : List D)
  | dic (ks : List Key) (ds : List D)
  | obj (C : Addr) (ks : List Str) (ds : List D)
  /-- a caught exception, its dict at dd -/
  | xex (a dd : Addr) (ks : List Str) (ds : List D)

/-- a tuple that stands, or of the written part -/
def SqU (K : PySem.W.Frag) (H : Hp) (a : Addr) (xs : List V) : Prop :=
  H a = some (.tup xs) ∨ ∃ (o : Obj) (its : Array Value) (n : Nat), K.lookup a = some o ∧ o.cls = .type "tuple" ∧ o.data = .seq its n ∧ its.size ≤ sizeLine ∧ Vals xs its.toList
theorem SqU.t {K : PySem.W.Frag} {H : Hp} {a : Addr} {xs : List V} (h : SqU K H a xs) : SqT K H a xs := by
  rcases h with h | h
  · exact .inl (.inl h)
  · exact .inr h
mutual
def Rep (K : PySem.W.Frag) (I : Hp) : D → V → Prop
  | .non, v => v = .non
  | .bl b, v => v = .bl b
  | .int i, v => v = .int i
  | .str s, v => v = .str s
  | .raw u, v => v = u
  | .lst ds, v => ∃ a xs, v = .ref a ∧ I a = some (.lst xs) ∧ Reps K I ds xs
  | .klst ds, v => ∃ a xs, v = .ref a ∧ SqL K I a xs ∧ Reps K I ds xs
  | .tup ds, v => ∃ a xs, v = .ref a ∧ SqU K I a xs ∧ Reps K I ds xs
  | .dic ks ds, v => ∃ a kvs, v = .ref a ∧ Rd I a (.dK kvs) ∧ kvs.map (·.1) = ks ∧ Reps K I ds (kvs.map (·.2))
  | .obj C ks ds, v => ∃ a dx fs, v = .ref a ∧ I a = some (.ins C dx fs) ∧ fs.map (·.1) = ks ∧ Reps K I ds (fs.map (·.2))
  | .xex a dd ks ds, v => ∃ fs, v = .ref a ∧ I dd = some (.xd fs) ∧ fs.map (·.1) = ks ∧ Reps K I ds (fs.map (·.2))
def Reps (K : PySem.W.Frag) (I : Hp) : List D → List V → Prop
  | [], vs => vs = []
  | d :: ds, vs => ∃ v r, vs = v :: r ∧ Rep K I d v ∧ Reps K I ds r
end

/-- what is known stays known -/
abbrev Le (I I' : Hp) : Prop := ∀ a o, I a = some o → I' a = some o
theorem Le.rd {I I' : Hp} {a : Addr} {u : HO} (e : Le I I') (h : Rd I a u) : Rd I' a u := by
  rcases h with h | ⟨o, h⟩
  · exact .inl (e _ _ h)
  · exact .inr ⟨o, e _ _ h⟩
theorem Le.sqL {K : PySem.W.Frag} {I I' : Hp} {a : Addr} {xs : List V} (e : Le I I') (h : SqL K I a xs) : SqL K I' a xs := by
  rcases h with h | h
  · exact .inl (e.rd h)
  · exact .inr h
theorem Le.sqT {K : PySem.W.Frag} {I I' : Hp} {a : Addr} {xs : List V} (e : Le I I') (h : SqT K I a xs) : SqT K I' a xs := by
  rcases h with h | h
  · exact .inl (e.rd h)
  · exact .inr h
theorem Le.sqU {K : PySem.W.Frag} {I I' : Hp} {a : Addr} {xs : List V} (e : Le I I') (h : SqU K I a xs) : SqU K I' a xs := by
  rcases h with h | h
  · exact .inl (e _ _ h)
  · exact .inr h
theorem Le.trans {I I1 I2 : Hp} (a : Le I I1) (b : Le I1 I2) : Le I I2 := fun x o h => b x o (a x o h)
theorem Le.refl (I : Hp) : Le I I := fun _ _ h => h
theorem Le.new {I : Hp} {p : Addr} {o : HO} (h : I p = none) : Le I (upd I p o) := fun a u e => by
  rw [upd_ne (ne_of_none e h)]; exact e

section
variable {K : PySem.W.Frag} {I I' : Hp}
mutual
theorem Rep.mono (e : Le I I') : ∀ (d : D) (v : V), Rep K I d v → Rep K I' d v
  | .non, _, h => h
  | .bl _, _, h => h
  | .int _, _, h => h
  | .str _, _, h => h
  | .raw _, _, h => h
  | .lst ds, _, h => by
    obtain ⟨a, xs, h1, h2, h3⟩ := h
    exact ⟨a, xs, h1, e _ _ h2, Reps.mono e ds xs h3⟩
  | .klst ds, _, h => by
    obtain ⟨a, xs, h1, h2, h3⟩ := h
    exact ⟨a, xs, h1, e.sqL h2, Reps.mono e ds xs h3⟩
  | .tup ds, _, h => by
    obtain ⟨a, xs, h1, h2, h3⟩ := h
    exact ⟨a, xs, h1, e.sqU h2, Reps.mono e ds xs h3⟩
  | .dic ks ds, _, h => by
    obtain ⟨a, kvs, h1, h2, h3, h4⟩ := h
    exact ⟨a, kvs, h1, e.rd h2, h3, Reps.mono e ds _ h4⟩
  | .obj C ks ds, _, h => by
    obtain ⟨a, dx, fs, h1, h2, h3, h4⟩ := h
    exact ⟨a, dx, fs, h1, e _ _ h2, h3, Reps.mono e ds _ h4⟩
  | .xex a dd ks ds, _, h => by
    obtain ⟨fs, h1, h2, h3, h4⟩ := h
    exact ⟨fs, h1, e _ _ h2, h3, Reps.mono e ds _ h4⟩
theorem Reps.mono (e : Le I I') : ∀ (ds : List D) (vs : List V), Reps K I ds vs → Reps K I' ds vs
  | [], _, h => h
  | d :: ds, _, h => by
    obtain ⟨v, r, h1, h2, h3⟩ := h
    exact ⟨v, r, h1, Rep.mono e d v h2, Reps.mono e ds r h3⟩
end
theorem Reps.nil : Reps K I [] [] := rfl
theorem Reps.cons {d : D} {v : V} {ds : List D} {vs : List V} (h : Rep K I d v) (r : Reps K I ds vs) : Reps K I (d :: ds) (v :: vs) := ⟨v, vs, rfl, h, r⟩
theorem Reps.length : ∀ {ds : List D} {vs : List V}, Reps K I ds vs → vs.length = ds.length
  | [], _, h => by cases (show _ = _ from h); rfl
  | d :: ds, _, h => by
    obtain ⟨v, r, rfl, _, h3⟩ := h
    rw [List.length_cons, List.length_cons, Reps.length h3]
theorem Reps.get : ∀ {ds : List D} {vs : List V} {i : Nat} {d : D}, Reps K I ds vs → ds[i]? = some d → ∃ v, vs[i]? = some v ∧ Rep K I d v
  | [], _, _, _, _, e => by simp at e
  | d :: ds, _, 0, d', h, e => by
    obtain ⟨v, r, rfl, h2, _⟩ := h
    simp at e; subst e
    exact ⟨v, rfl, h2⟩
  | d :: ds, _, i + 1, d', h, e => by
    obtain ⟨v, r, rfl, _, h3⟩ := h
    obtain ⟨u, e1, e2⟩ := Reps.get (i := i) h3 (by simpa using e)
    exact ⟨u, by simpa using e1, e2⟩
theorem Reps.get' : ∀ {ds : List D} {vs : List V} {i : Nat} {v : V}, Reps K I ds vs → vs[i]? = some v → ∃ d, ds[i]? = some d ∧ Rep K I d v := fun {ds vs i v} h e => by
  have hl := h.length
  have hi : i < ds.length := by
    rw [← hl]
    exact (List.getElem?_eq_some_iff.mp e).1
  obtain ⟨u, e1, e2⟩ := h.get (List.getElem?_eq_getElem hi)
  rw [e] at e1; cases e1
  exact ⟨_, List.getElem?_eq_getElem hi, e2⟩
theorem Reps.append : ∀ {ds : List D} {vs : List V} {es : List D} {us : List V}, Reps K I ds vs → Reps K I es us → Reps K I (ds ++ es) (vs ++ us)
  | [], _, _, _, h, g => by cases (show _ = _ from h); exact g
  | d :: ds, _, _, _, h, g => by
    obtain ⟨v, r, rfl, h2, h3⟩ := h
    exact ⟨v, _, rfl, h2, Reps.append h3 g⟩
theorem Reps.set : ∀ {ds : List D} {vs : List V} {d : D} {v : V} (i : Nat), Reps K I ds vs → Rep K I d v → Reps K I (ds.set i d) (vs.set i v)
  | [], _, _, _, _, h, g => by cases (show _ = _ from h); exact Reps.nil
  | d :: ds, _, _, _, 0, h, g => by
    obtain ⟨v, r, rfl, h2, h3⟩ := h
    exact ⟨_, r, rfl, g, h3⟩
  | d :: ds, _, _, _, i + 1, h, g => by
    obtain ⟨v, r, rfl, h2, h3⟩ := h
    exact ⟨v, _, rfl, h2, Reps.set i h3 g⟩
theorem Reps.take : ∀ {ds : List D} {vs : List V} (n : Nat), Reps K I ds vs → Reps K I (ds.take n) (vs.take n)
  | _, _, 0, _ => rfl
  | [], _, n + 1, h => by cases (show _ = _ from h); exact Reps.nil
  | d :: ds, _, n + 1, h => by
    obtain ⟨v, r, rfl, h2, h3⟩ := h
    exact ⟨v, _, rfl, h2, Reps.take n h3⟩
theorem Reps.drop : ∀ {ds : List D} {vs : List V} (n : Nat), Reps K I ds vs → Reps K I (ds.drop n) (vs.drop n)
  | _, _, 0, h => h
  | [], _, n + 1, h => by cases (show _ = _ from h); exact Reps.nil
  | d :: ds, _, n + 1, h => by
    obtain ⟨v, r, rfl, h2, h3⟩ := h
    exact Reps.drop n h3
theorem Reps.ints : ∀ {ns : List Int} {vs : List V}, Reps K I (ns.map D.int) vs → vs = ns.map V.int
  | [], _, h => h
  | n :: ns, _, h => by
    obtain ⟨v, r, rfl, h2, h3⟩ := h
    have h2 : v = V.int n := h2
    rw [h2, Reps.ints h3]; rfl
theorem Reps.of_ints : ∀ (ns : List Int), Reps K I (ns.map D.int) (ns.map V.int)
  | [] => rfl
  | n :: ns => ⟨_, _, rfl, rfl, Reps.of_ints ns⟩
theorem Reps.bls : ∀ {ns : List Bool} {vs : List V}, Reps K I (ns.map D.bl) vs → vs = ns.map V.bl
  | [], _, h => h
  | n :: ns, _, h => by
    obtain ⟨v, r, rfl, h2, h3⟩ := h
    have h2 : v = V.bl n := h2
    rw [h2, Reps.bls h3]; rfl
theorem Reps.strs : ∀ {ns : List Str} {vs : List V}, Reps K I (ns.map D.str) vs → vs = ns.map V.str
  | [], _, h => h
  | n :: ns, _, h => by
    obtain ⟨v, r, rfl, h2, h3⟩ := h
    have h2 : v = V.str n := h2
    rw [h2, Reps.strs h3]; rfl
theorem Reps.of_strs : ∀ (ns : List Str), Reps K I (ns.map D.str) (ns.map V.str)
  | [] => rfl
  | n :: ns => ⟨_, _, rfl, rfl, Reps.of_strs ns⟩
end

/-! ### things of one's own: they may change -/
inductive Cell where
  | lst (ds : List D)
  | dic (ks : List Key) (ds : List D)
  | obj (C : Addr) (ks : List Str) (ds : List D)
  /-- a list of which only this is known -/
  | ab (P : List D → Prop)

def CellR (K : PySem.W.Frag) (I H : Hp) (p : Addr) : Cell → Prop
  | .lst ds => ∃ xs, H p = some (.lst xs) ∧ Reps K I ds xs
  | .dic ks ds => ∃ kvs, H p = some (.dK kvs) ∧ kvs.map (·.1) = ks ∧ Reps K I ds (kvs.map (·.2))
  | .obj C ks ds => ∃ dx fs, H p = some (.ins C dx fs) ∧ fs.map (·.1) = ks ∧ Reps K I ds (fs.map (·.2))
  | .ab P => ∃ ds xs, H p = some (.lst xs) ∧ Reps K I ds xs ∧ P ds
theorem CellR.mono {K : PySem.W.Frag} {I I' H H' : Hp} {p : Addr} {c : Cell} (e : Le I I') (h : ∀ o, H p = some o → H' p = some o) (x : CellR K I H p c) : CellR K I' H' p c := by
  cases c with
  | lst ds => obtain ⟨xs, h1, h2⟩ := x; exact ⟨xs, h _ h1, Reps.mono e _ _ h2⟩
  | dic ks ds => obtain ⟨xs, h1, h2, h3⟩ := x; exact ⟨xs, h _ h1, h2, Reps.mono e _ _ h3⟩
  | obj C ks ds => obtain ⟨dx, xs, h1, h2, h3⟩ := x; exact ⟨dx, xs, h _ h1, h2, Reps.mono e _ _ h3⟩
  | ab P => obtain ⟨ds, xs, h1, h2, h3⟩ := x; exact ⟨ds, xs, h _ h1, Reps.mono e _ _ h2, h3⟩
theorem CellR.there {K : PySem.W.Frag} {I H : Hp} {p : Addr} {c : Cell} (x : CellR K I H p c) : ∃ o, H p = some o := by
  cases c with
  | lst ds => obtain ⟨xs, h1, _⟩ := x; exact ⟨_, h1⟩
  | dic ks ds => obtain ⟨xs, h1, _⟩ := x; exact ⟨_, h1⟩
  | obj C ks ds => obtain ⟨dx, xs, h1, _⟩ := x; exact ⟨_, h1⟩
  | ab P => obtain ⟨ds, xs, h1, _⟩ := x; exact ⟨_, h1⟩
/-- the thing, once nobody changes it any more -/
def Cell.toD (p : Addr) : Cell → D
  | .lst ds => .lst ds
  | .dic ks ds => .dic ks ds
  | .obj C ks ds => .obj C ks ds
  | .ab _ => .raw (.ref p)

/-! ### what a slot holds -/
inductive DV where
  | no
  | val (d : D)
  | own (p : Addr) (c : Cell)
abbrev Env := List DV
def DV.toD : DV → D
  | .no => .non
  | .val d => d
  | .own p c => c.toD p

/-- the data of a result, held fast -/
inductive Fast : DV → D → Prop where
  | val {d : D} : Fast (.val d) d
  | lst {p : Addr} {ds : List D} : Fast (.own p (.lst ds)) (.lst ds)
  | dic {p : Addr} {ks : List Key} {ds : List D} : Fast (.own p (.dic ks ds)) (.dic ks ds)
  | obj {p C : Addr} {ks : List Str} {ds : List D} : Fast (.own p (.obj C ks ds)) (.obj C ks ds)
  | ab {p : Addr} {P : List D → Prop} : Fast (.own p (.ab P)) (.raw (.ref p))
theorem Fast.ne {r : DV} {d : D} (h : Fast r d) : r ≠ .no := by
  intro e
  subst e
  cases h
theorem Fast.eq {r : DV} {d : D} (h : Fast r d) : r.toD = d := by
  cases h <;> rfl

structure EnvR (K : PySem.W.Frag) (I H : Hp) (σ : St) (δ : Env) : Prop where
  sub : Le I H
  len : σ.length = δ.length
  val : ∀ (i : Nat) d, δ[i]? = some (.val d) → ∃ v, σ[i]? = some (some v) ∧ Rep K I d v
  own : ∀ (i : Nat) p c, δ[i]? = some (.own p c) → σ[i]? = some (some (.ref p)) ∧ I p = none ∧ CellR K I H p c
  inj : ∀ (i j : Nat) p c c', δ[i]? = some (.own p c) → δ[j]? = some (.own p c') → i = j
def Own (δ : Env) (a : Addr) : Prop := ∃ (i : Nat) (c : Cell), δ[i]? = some (.own a c)

/-- from one state to a later one: P are the addresses that were owned, P' those that are -/
structure Goes (P P' : Addr → Prop) (I H I' H' : Hp) : Prop where
  le : Le I I'
  keep : ∀ a o, H a = some o → I a = none → ¬ P a → H' a = some o ∧ I' a = none
  new : ∀ a, P' a → P a ∨ H a = none
theorem Goes.refl {P : Addr → Prop} {I H : Hp} : Goes P P I H I H := ⟨Le.refl _, fun _ _ h i _ => ⟨h, i⟩, fun _ h => .inl h⟩
theorem Goes.trans {P P1 P2 : Addr → Prop} {I H I1 H1 I2 H2 : Hp} (a : Goes P P1 I H I1 H1) (b : Goes P1 P2 I1 H1 I2 H2) (s1 : Le I1 H1) : Goes P P2 I H I2 H2 := by
  refine ⟨a.le.trans b.le, fun x o h i np => ?_, fun x hx => ?_⟩
  · obtain ⟨h1, i1⟩ := a.keep x o h i np
    refine b.keep x o h1 i1 fun hp => ?_
    rcases a.new x hp with q | q
    · exact np q
    · rw [h] at q; cases q
  · rcases b.new x hx with q | q
    · exact a.new x q
    · cases hH : H x with
      | none => exact .inr rfl
      | some o =>
        refine .inl (Classical.byContradiction fun np => ?_)
        cases hI : I x with
        | none =>
          obtain ⟨h1, _⟩ := a.keep x o hH hI np
          rw [h1] at q; cases q
        | some u =>
          have := s1 _ _ (a.le _ _ hI)
          rw [this] at q; cases q
theorem Goes.sub {P P' P1 : Addr → Prop} {I H I' H' : Hp} (a : Goes P P' I H I' H') (h : ∀ x, P1 x → P' x) : Goes P P1 I H I' H' := ⟨a.le, a.keep, fun x hx => a.new x (h x hx)⟩
/-- nothing that stood is changed -/
theorem Goes.grow {P : Addr → Prop} {I H I' H' : Hp} (le : Le I I') (hh : ∀ a o, H a = some o → H' a = some o) (nw : ∀ a o, H a = some o → I a = none → I' a = none) : Goes P P I H I' H' :=
  ⟨le, fun a o h i _ => ⟨hh a o h, nw a o h i⟩, fun _ h => .inl h⟩

/-! ### the two lists kept in step -/
section
variable {K : PySem.W.Frag} {I H I' H' : Hp} {σ : St} {δ : Env}
theorem EnvR.grow (x : EnvR K I H σ δ) (le : Le I I') (s : Le I' H') (hh : ∀ a o, H a = some o → H' a = some o) (nw : ∀ a o, H a = some o → I a = none → I' a = none) : EnvR K I' H' σ δ := by
  refine ⟨s, x.len, fun i d h => ?_, fun i p c h => ?_, x.inj⟩
  · obtain ⟨v, h1, h2⟩ := x.val i d h
    exact ⟨v, h1, Rep.mono le _ _ h2⟩
  · obtain ⟨h1, h2, h3⟩ := x.own i p c h
    obtain ⟨o, ho⟩ := h3.there
    exact ⟨h1, nw p o ho h2, h3.mono le (hh p)⟩
theorem EnvR.tail {v : Option V} {r : DV} (x : EnvR K I H (v :: σ) (r :: δ)) : EnvR K I H σ δ := by
  refine ⟨x.sub, ?_, fun i d h => ?_, fun i p c h => ?_, fun i j p c c' h1 h2 => ?_⟩
  · have := x.len
    simpa using this
  · obtain ⟨v, h1, h2⟩ := x.val (i + 1) d (by simpa using h)
    exact ⟨v, by simpa using h1, h2⟩
  · obtain ⟨h1, h2⟩ := x.own (i + 1) p c (by simpa using h)
    exact ⟨by simpa using h1, h2⟩
  · have := x.inj (i + 1) (j + 1) p c c' (by simpa using h1) (by simpa using h2)
    omega
theorem Own.tail {r : DV} {a : Addr} (h : Own δ a) : Own (r :: δ) a := by
  obtain ⟨i, c, h⟩ := h
  exact ⟨i + 1, c, by simpa using h⟩
theorem EnvR.cons_val {v : V} {d : D} (x : EnvR K I H σ δ) (h : Rep K I d v) : EnvR K I H (some v :: σ) (.val d :: δ) := by
  refine ⟨x.sub, by simp [x.len], fun i d' e => ?_, fun i p c e => ?_, fun i j p c c' e1 e2 => ?_⟩
  · cases i with
    | zero => simp at e; subst e; exact ⟨v, rfl, h⟩
    | succ i => simpa using x.val i d' (by simpa using e)
  · cases i with
    | zero => simp at e
    | succ i => simpa using x.own i p c (by simpa using e)
  · cases i with
    | zero => simp at e1
    | succ i =>
      cases j with
      | zero => simp at e2
      | succ j => rw [x.inj i j p c c' (by simpa using e1) (by simpa using e2)]
theorem own_cons_val {d : D} {a : Addr} : Own (.val d :: δ) a ↔ Own δ a := by
  constructor
  · rintro ⟨i, c, h⟩
    cases i with
    | zero => simp at h
    | succ i => exact ⟨i, c, by simpa using h⟩
  · exact Own.tail
theorem EnvR.cons_own {p : Addr} {c : Cell} (x : EnvR K I H σ δ) (hn : ¬ Own δ p) (hi : I p = none) (h : CellR K I H p c) : EnvR K I H (some (.ref p) :: σ) (.own p c :: δ) := by
  refine ⟨x.sub, by simp [x.len], fun i d' e => ?_, fun i p' c' e => ?_, fun i j p' c1 c2 e1 e2 => ?_⟩
  · cases i with
    | zero => simp at e
    | succ i => simpa using x.val i d' (by simpa using e)
  · cases i with
    | zero =>
      simp at e
      obtain ⟨rfl, rfl⟩ := e
      exact ⟨rfl, hi, h⟩
    | succ i => simpa using x.own i p' c' (by simpa using e)
  · cases i with
    | zero =>
      cases j with
      | zero => rfl
      | succ j =>
        simp at e1
        obtain ⟨rfl, rfl⟩ := e1
        exact absurd ⟨j, c2, by simpa using e2⟩ hn
    | succ i =>
      cases j with
      | zero =>
        simp at e2
        obtain ⟨rfl, rfl⟩ := e2
        exact absurd ⟨i, c1, by simpa using e1⟩ hn
      | succ j => rw [x.inj i j p' c1 c2 (by simpa using e1) (by simpa using e2)]
theorem EnvR.head_val {v : Option V} {d : D} (x : EnvR K I H (v :: σ) (.val d :: δ)) : ∃ u, v = some u ∧ Rep K I d u := by
  obtain ⟨u, h1, h2⟩ := x.val 0 d rfl
  simp at h1
  exact ⟨u, h1, h2⟩
theorem EnvR.head_own {v : Option V} {p : Addr} {c : Cell} (x : EnvR K I H (v :: σ) (.own p c :: δ)) : v = some (.ref p) ∧ I p = none ∧ CellR K I H p c ∧ ¬ Own δ p := by
  obtain ⟨h1, h2, h3⟩ := x.own 0 p c rfl
  refine ⟨by simpa using h1, h2, h3, fun ⟨i, c', h⟩ => ?_⟩
  have := x.inj 0 (i + 1) p c c' rfl (by simpa using h)
  omega
/-- the value on top becomes what slot i holds -/
theorem EnvR.set {v : Option V} {r : DV} (x : EnvR K I H (v :: σ) (r :: δ)) (i : Nat) : EnvR K I H (σ.set i v) (δ.set i r) := by
  have key : ∀ (j : Nat) (y : DV), (δ.set i r)[j]? = some y → (j = i ∧ y = r ∧ i < δ.length) ∨ (j ≠ i ∧ δ[j]? = some y) := fun j y e => by
    by_cases hj : j = i
    · subst hj
      have hl : j < δ.length := by
        have := (List.getElem?_eq_some_iff.mp e).1
        simpa using this
      rw [List.getElem?_set_self hl] at e
      exact .inl ⟨rfl, (Option.some.inj e).symm, hl⟩
    · rw [List.getElem?_set_ne (Ne.symm hj)] at e
      exact .inr ⟨hj, e⟩
  have hlen : σ.length = δ.length := by
    have := x.len
    simpa using this
  have lk : ∀ (j : Nat) (y : DV), (δ.set i r)[j]? = some y → ∃ k : Nat, (r :: δ)[k]? = some y ∧ (σ.set i v)[j]? = (v :: σ)[k]? ∧ (k = 0 → j = i) ∧ ∀ m, k = m + 1 → j = m ∧ j ≠ i := fun j y e => by
    rcases key j y e with ⟨rfl, rfl, hl⟩ | ⟨hj, e'⟩
    · refine ⟨0, rfl, ?_, fun _ => rfl, fun m h => absurd h (by omega)⟩
      rw [List.getElem?_set_self (by omega)]
      rfl
    · refine ⟨j + 1, by simpa using e', ?_, fun h => absurd h (by omega), fun m h => ⟨by omega, hj⟩⟩
      rw [List.getElem?_set_ne (Ne.symm hj)]
      simp
  refine ⟨x.sub, by simp [hlen], fun j d e => ?_, fun j p c e => ?_, fun j k p c c' e1 e2 => ?_⟩
  · obtain ⟨k, h1, h2, _⟩ := lk j _ e
    obtain ⟨u, h3, h4⟩ := x.val k d h1
    exact ⟨u, h2.trans h3, h4⟩
  · obtain ⟨k, h1, h2, _⟩ := lk j _ e
    obtain ⟨h3, h4⟩ := x.own k p c h1
    exact ⟨h2.trans h3, h4⟩
  · obtain ⟨a, h1, _, z1, s1⟩ := lk j _ e1
    obtain ⟨b, h2, _, z2, s2⟩ := lk k _ e2
    have hab := x.inj a b p c c' h1 h2
    subst hab
    cases a with
    | zero => rw [z1 rfl, z2 rfl]
    | succ m => rw [(s1 m rfl).1, (s2 m rfl).1]
theorem own_set {r : DV} {i : Nat} {a : Addr} (h : Own (δ.set i r) a) : Own (r :: δ) a := by
  obtain ⟨j, c, e⟩ := h
  by_cases hj : j = i
  · subst hj
    have hl : j < δ.length := by
      have := (List.getElem?_eq_some_iff.mp e).1
      simpa using this
    rw [List.getElem?_set_self hl] at e
    exact ⟨0, c, e⟩
  · rw [List.getElem?_set_ne (Ne.symm hj)] at e
    exact ⟨j + 1, c, by simpa using e⟩
/-- forget a slot -/
theorem EnvR.forget (x : EnvR K I H σ δ) (i : Nat) (v : Option V) : EnvR K I H (σ.set i v) (δ.set i .no) := by
  have key : ∀ (j : Nat) (y : DV), y ≠ .no → (δ.set i .no)[j]? = some y → j ≠ i ∧ δ[j]? = some y := fun j y hy e => by
    by_cases hj : j = i
    · subst hj
      have hl : j < δ.length := by
        have := (List.getElem?_eq_some_iff.mp e).1
        simpa using this
      rw [List.getElem?_set_self hl] at e
      exact absurd (Option.some.inj e).symm hy
    · rw [List.getElem?_set_ne (Ne.symm hj)] at e
      exact ⟨hj, e⟩
  refine ⟨x.sub, by simp [x.len], fun j d e => ?_, fun j p c e => ?_, fun j k p c c' e1 e2 => ?_⟩
  · obtain ⟨hj, e⟩ := key j _ (by simp) e
    rw [List.getElem?_set_ne (Ne.symm hj)]
    exact x.val j d e
  · obtain ⟨hj, e⟩ := key j _ (by simp) e
    rw [List.getElem?_set_ne (Ne.symm hj)]
    exact x.own j p c e
  · exact x.inj j k p c c' (key j _ (by simp) e1).2 (key k _ (by simp) e2).2
theorem own_forget {i : Nat} {a : Addr} (h : Own (δ.set i .no) a) : Own δ a := by
  obtain ⟨j, c, e⟩ := own_set h
  cases j with
  | zero => simp at e
  | succ j => exact ⟨j, c, by simpa using e⟩
/-- the content of slot i's own thing changes -/
theorem EnvR.upd {i : Nat} {p : Addr} {c c' : Cell} {o : HO} (x : EnvR K I H σ δ) (h : δ[i]? = some (.own p c)) (hc : CellR K I (L2.upd H p o) p c') : EnvR K I (L2.upd H p o) σ (δ.set i (.own p c')) := by
  have hi : i < δ.length := (List.getElem?_eq_some_iff.mp h).1
  obtain ⟨h1, h2, h3⟩ := x.own i p c h
  have key : ∀ (j : Nat) (y : DV), (δ.set i (.own p c'))[j]? = some y → (j = i ∧ y = .own p c') ∨ (j ≠ i ∧ δ[j]? = some y) := fun j y e => by
    by_cases hj : j = i
    · subst hj
      rw [List.getElem?_set_self hi] at e
      exact .inl ⟨rfl, (Option.some.inj e).symm⟩
    · rw [List.getElem?_set_ne (Ne.symm hj)] at e
      exact .inr ⟨hj, e⟩
  refine ⟨fun a u e => ?_, by simp [x.len], fun j d e => ?_, fun j q e' e => ?_, fun j k q c1 c2 e1 e2 => ?_⟩
  · rw [upd_ne (ne_of_none e h2)]
    exact x.sub a u e
  · rcases key j _ e with ⟨_, z⟩ | ⟨_, z⟩
    · cases z
    · exact x.val j d z
  · rcases key j _ e with ⟨z1, z2⟩ | ⟨hj, z⟩
    · cases z2
      rw [z1]
      exact ⟨h1, h2, hc⟩
    · obtain ⟨g1, g2, g3⟩ := x.own j q e' z
      have hq : q ≠ p := fun y => by
        rw [y] at z
        exact hj (x.inj j i p _ _ z h)
      exact ⟨g1, g2, g3.mono (Le.refl _) fun o ho => by rw [upd_ne hq]; exact ho⟩
  · rcases key j _ e1 with ⟨y1, y2⟩ | ⟨hj, y⟩ <;> rcases key k _ e2 with ⟨z1, z2⟩ | ⟨hk, z⟩
    · rw [y1, z1]
    · cases y2
      exact absurd (x.inj k i p _ _ z h) hk
    · cases z2
      exact absurd (x.inj j i p _ _ y h) hj
    · exact x.inj j k q c1 c2 y z
theorem own_upd {i : Nat} {p a : Addr} {c c' : Cell} (h : δ[i]? = some (.own p c)) : Own (δ.set i (.own p c')) a ↔ Own δ a := by
  have hi : i < δ.length := (List.getElem?_eq_some_iff.mp h).1
  constructor
  · rintro ⟨j, c1, e⟩
    by_cases hj : j = i
    · subst hj
      rw [List.getElem?_set_self hi] at e
      cases Option.some.inj e
      exact ⟨j, c, h⟩
    · rw [List.getElem?_set_ne (Ne.symm hj)] at e
      exact ⟨j, c1, e⟩
  · rintro ⟨j, c1, e⟩
    by_cases hj : j = i
    · subst hj
      rw [h] at e
      cases Option.some.inj e
      exact ⟨j, c', by rw [List.getElem?_set_self hi]⟩
    · exact ⟨j, c1, by rw [List.getElem?_set_ne (Ne.symm hj)]; exact e⟩
theorem Goes.upd {i : Nat} {p : Addr} {c c' : Cell} {o : HO} (x : EnvR K I H σ δ) (h : δ[i]? = some (.own p c)) : Goes (Own δ) (Own (δ.set i (.own p c'))) I H I (L2.upd H p o) :=
  ⟨Le.refl _, fun a u ha hi np => ⟨by
    rw [upd_ne]
    · exact ha
    · intro e
      subst e
      exact np ⟨i, c, h⟩, hi⟩, fun a ha => .inl ((own_upd h).mp ha)⟩
/-- an own thing is held fast from now on -/
theorem EnvR.freeze {v : Option V} {p : Addr} {c : Cell} (x : EnvR K I H (v :: σ) (.own p c :: δ)) :
    ∃ I', EnvR K I' H (v :: σ) (.val (c.toD p) :: δ) ∧ Goes (Own (.own p c :: δ)) (Own δ) I H I' H := by
  obtain ⟨hv, hi, hc, hn⟩ := x.head_own
  have x0 := x.tail
  by_cases hab : ∃ P, c = .ab P
  · obtain ⟨P, rfl⟩ := hab
    subst hv
    exact ⟨I, x0.cons_val (d := .raw (.ref p)) rfl, ⟨Le.refl _, fun a o h i _ => ⟨h, i⟩, fun a h => .inl h.tail⟩⟩
  obtain ⟨o, ho⟩ := hc.there
  have le : Le I (L2.upd I p o) := Le.new hi
  have x1 : EnvR K (L2.upd I p o) H σ δ := by
    refine ⟨fun a u e => ?_, x0.len, fun j d e => ?_, fun j q c' e => ?_, x0.inj⟩
    · by_cases ha : a = p
      · subst ha
        rw [upd_same] at e
        cases e
        exact ho
      · rw [upd_ne ha] at e
        exact x0.sub a u e
    · obtain ⟨u, h1, h2⟩ := x0.val j d e
      exact ⟨u, h1, Rep.mono le _ _ h2⟩
    · obtain ⟨h1, h2, h3⟩ := x0.own j q c' e
      have hq : q ≠ p := fun z => by
        subst z
        exact hn ⟨j, c', e⟩
      exact ⟨h1, by rw [upd_ne hq]; exact h2, h3.mono le fun _ h => h⟩
  refine ⟨L2.upd I p o, ?_, ⟨le, fun a u h i np => ⟨h, ?_⟩, fun a h => .inl h.tail⟩⟩
  · subst hv
    refine x1.cons_val ?_
    cases c with
    | lst ds =>
      obtain ⟨xs, h1, h2⟩ := hc
      rw [h1] at ho; cases ho
      exact ⟨p, xs, rfl, upd_same, Reps.mono le _ _ h2⟩
    | dic ks ds =>
      obtain ⟨xs, h1, h2, h3⟩ := hc
      rw [h1] at ho; cases ho
      exact ⟨p, xs, rfl, .inl upd_same, h2, Reps.mono le _ _ h3⟩
    | obj C ks ds =>
      obtain ⟨dx, xs, h1, h2, h3⟩ := hc
      rw [h1] at ho; cases ho
      exact ⟨p, dx, xs, rfl, upd_same, h2, Reps.mono le _ _ h3⟩
    | ab P => exact absurd ⟨P, rfl⟩ hab
  · rw [upd_ne]
    · exact i
    · intro e
      subst e
      exact np ⟨0, c, rfl⟩
end
end Zd
namespace Zd
open PySem L2
/-! ### the canonical readings: each construct read by what it does -/
def we (X : Cx) (e : Expr) : TE := fun σ H Q => ∀ pins s, Inv X pins σ H s → wpAny (model X.prog X.w) X.A (eval e X.env) (EP X pins σ Q) X.xe s
def wt (X : Cx) (e : Expr) : TT := fun σ H Q => ∀ pins s, Inv X pins σ H s → wpAny (model X.prog X.w) X.A (isTrue e X.env (eval e X.env)) (TP X pins σ Q) X.xe s
def ww (X : Cx) (e : Expr) : TT := fun σ H Q => ∀ (whole : Sem Value) pins s, Inv X pins σ H s → wpAny (model X.prog X.w) X.A (isTrue e X.env whole) (TP X pins σ Q) X.xe s
def wa (X : Cx) (es : List Expr) : TA := fun σ H Q => ∀ (pos : Pos) pins s, Inv X pins σ H s → wpAny (model X.prog X.w) X.A (spliced (backTo pos (starEach es X.env))) (AP X pins σ Q) X.xe s
def ws (X : Cx) (st : Stmt) : TS := fun D σ H => ∀ pins s, Inv X pins σ H s → wpAny (model X.prog X.w) X.A (exec st X.env) (SP X pins D) X.xe s
def wb (X : Cx) (st : List Stmt) : TS := fun D σ H => ∀ pins s, Inv X pins σ H s → wpAny (model X.prog X.w) X.A (execs st X.env) (SP X pins D) X.xe s
def wg (X : Cx) (target : Expr) : TG := fun v σ H Q => ∀ pins s u, Inv X pins σ H s → RelV v u →
  wpAny (model X.prog X.w) X.A (assign target X.env u) (fun _ s' => ∃ σ' H', Inv X pins σ' H' s' ∧ Q σ' H') X.xe s
def wi (X : Cx) (tg iter : Expr) : TI := fun σ H R => ∀ pins s, Inv X pins σ H s →
  wpAny (model X.prog X.w) X.A (eval iter X.env) (fun v s1 => wpAny (model X.prog X.w) X.A (pyIter v) (PIE X pins σ tg R) X.xe s1) X.xe s
def wop (X : Cx) (f : Value → Value → Sem Value) : R2 := fun x y H Q => ∀ pins s σ v u, Inv X pins σ H s → RelV x v → RelV y u → wpAny (model X.prog X.w) X.A (f v u) (EP X pins σ Q) X.xe s
def wun (X : Cx) (f : Value → Sem Value) : V → Hp → VK → Prop := fun x H Q => ∀ pins s σ v, Inv X pins σ H s → RelV x v → wpAny (model X.prog X.w) X.A (f v) (EP X pins σ Q) X.xe s
def wcall (X : Cx) (f : Value) : List V → Hp → VK → Prop := fun xs H Q => ∀ pins s σ us, Inv X pins σ H s → Vals xs us → wpAny (model X.prog X.w) X.A (call f us) (EP X pins σ Q) X.xe s
section
variable {X : Cx}
theorem _root_.L2.PE.of {e : Expr} : PE X e (we X e) := ⟨fun pins s σ H Q I h => h pins s I⟩
theorem _root_.L2.PT.of {e : Expr} : PT X e (wt X e) := ⟨fun pins s σ H Q I h => h pins s I⟩
theorem _root_.L2.PW.of {e : Expr} : PW X e (ww X e) := ⟨fun whole pins s σ H Q I h => h whole pins s I⟩
theorem _root_.L2.PA.of {e : List Expr} : PA X e (wa X e) := ⟨fun pos pins s σ H Q I h => h pos pins s I⟩
theorem _root_.L2.PS.of {e : Stmt} : PS X e (ws X e) := ⟨fun pins s σ H Q I h => h pins s I⟩
theorem _root_.L2.PSs.of {e : List Stmt} : PSs X e (wb X e) := ⟨fun pins s σ H Q I h => h pins s I⟩
theorem _root_.L2.PG.of {e : Expr} : PG X e (wg X e) := ⟨fun pins s σ H v u Q I r h => h pins s u I r⟩
theorem _root_.L2.PI.of {t e : Expr} : PI X t e (wi X t e) := ⟨fun pins s σ H Q I h => h pins s I⟩
theorem _root_.L2.OpR.of {f : Value → Value → Sem Value} : OpR X f (wop X f) := fun pins s σ H x y v u Q I rx ry h => h pins s σ v u I rx ry
theorem _root_.L2.UnR.of {f : Value → Sem Value} : UnR X f (wun X f) := fun pins s σ H x v Q I rx h => h pins s σ v I rx
theorem _root_.L2.CallR.of {f : Value} : CallR X f (wcall X f) := fun pins s σ H xs us Q I r h => h pins s σ us I r
theorem _root_.L2.PE.to {e : Expr} {t : TE} {σ : St} {H : Hp} {Q : VK} (p : PE X e t) (h : t σ H Q) : we X e σ H Q := fun pins s I => p.run pins s σ H Q I h
theorem _root_.L2.PT.to {e : Expr} {t : TT} {σ : St} {H : Hp} {Q : Bool → Hp → Prop} (p : PT X e t) (h : t σ H Q) : wt X e σ H Q := fun pins s I => p.run pins s σ H Q I h
theorem _root_.L2.PW.to {e : Expr} {t : TT} {σ : St} {H : Hp} {Q : Bool → Hp → Prop} (p : PW X e t) (h : t σ H Q) : ww X e σ H Q := fun whole pins s I => p.run whole pins s σ H Q I h
theorem _root_.L2.PA.to {e : List Expr} {t : TA} {σ : St} {H : Hp} {Q : List V → Hp → Prop} (p : PA X e t) (h : t σ H Q) : wa X e σ H Q := fun pos pins s I => p.run pos pins s σ H Q I h
theorem _root_.L2.PS.to {e : Stmt} {t : TS} {σ : St} {H : Hp} {Q : Ends} (p : PS X e t) (h : t Q σ H) : ws X e Q σ H := fun pins s I => p.run pins s σ H Q I h
theorem _root_.L2.PSs.to {e : List Stmt} {t : TS} {σ : St} {H : Hp} {Q : Ends} (p : PSs X e t) (h : t Q σ H) : wb X e Q σ H := fun pins s I => p.run pins s σ H Q I h
theorem _root_.L2.PG.to {e : Expr} {t : TG} {v : V} {σ : St} {H : Hp} {Q : St → Hp → Prop} (p : PG X e t) (h : t v σ H Q) : wg X e v σ H Q := fun pins s u I r => p.run pins s σ H v u Q I r h
theorem _root_.L2.PI.to {tg e : Expr} {t : TI} {σ : St} {H : Hp} {Q : It → Hp → Prop} (p : PI X tg e t) (h : t σ H Q) : wi X tg e σ H Q := fun pins s I => p.run pins s σ H Q I h
theorem _root_.L2.OpR.to {f : Value → Value → Sem Value} {r : R2} {x y : V} {H : Hp} {Q : VK} (p : OpR X f r) (h : r x y H Q) : wop X f x y H Q := fun pins s σ v u I rx ry => p pins s σ H x y v u Q I rx ry h
theorem _root_.L2.UnR.to {f : Value → Sem Value} {r : V → Hp → VK → Prop} {x : V} {H : Hp} {Q : VK} (p : UnR X f r) (h : r x H Q) : wun X f x H Q := fun pins s σ v I rx => p pins s σ H x v Q I rx h
theorem _root_.L2.CallR.to {f : Value} {r : List V → Hp → VK → Prop} {xs : List V} {H : Hp} {Q : VK} (p : CallR X f r) (h : r xs H Q) : wcall X f xs H Q := fun pins s σ us I rx => p pins s σ H xs us Q I rx h
end
/-- expressions from the left -/
def wes (X : Cx) : List Expr → TA
  | [] => fun _ H Q => Q [] H
  | e :: es => fun σ H Q => we X e σ H fun x H1 => wes X es σ H1 fun xs H2 => Q (x :: xs) H2

/-! ### exceptions as data -/
inductive Exn where
  | mk (C : Addr) (ks : List Str) (ds : List D)
  | plain (cls : Value)
def ExnR (K : PySem.W.Frag) (I H : Hp) (cls : Value) (d : Option Addr) : Exn → Prop
  | .mk C ks ds => cls = .ref C ∧ ∃ dx fs, d = some dx ∧ I dx = some (.xd fs) ∧ fs.map (·.1) = ks ∧ Reps K I ds (fs.map (·.2))
  | .plain c => cls = c ∧ d = none

/-! ### the deep judgements -/
structure Gx where
  X : Cx
  W : WX
  Ξ : Exn → Env → Prop
def XFut (G : Gx) (δ : Env) (I H : Hp) : Prop := ∀ x δ' σ' I' H' cls d, G.Ξ x δ' → EnvR G.X.K I' H' σ' δ' → Goes (Own δ) (Own δ') I H I' H' → ExnR G.X.K I' H' cls d x → G.W cls d σ' H'
theorem XFut.go {G : Gx} {δ δ1 : Env} {I H I1 H1 : Hp} (x : XFut G δ I H) (g : Goes (Own δ) (Own δ1) I H I1 H1) (s : Le I1 H1) : XFut G δ1 I1 H1 :=
  fun e δ' σ' I' H' cls d h1 h2 h3 h4 => x e δ' σ' I' H' cls d h1 h2 (g.trans h3 s) h4
def de (G : Gx) (e : Expr) (δ : Env) (Φ : DV → Env → Prop) : Prop :=
  ∀ σ I H, EnvR G.X.K I H σ δ → XFut G δ I H → ∀ Q : VK, (∀ r δ' v I' H', Φ r δ' → EnvR G.X.K I' H' (some v :: σ) (r :: δ') → Goes (Own δ) (Own (r :: δ')) I H I' H' → Q v H') → we G.X e σ H Q
def dt (G : Gx) (e : Expr) (δ : Env) (Φ : Bool → Env → Prop) : Prop :=
  ∀ σ I H, EnvR G.X.K I H σ δ → XFut G δ I H → ∀ Q : Bool → Hp → Prop, (∀ b δ' I' H', Φ b δ' → EnvR G.X.K I' H' σ δ' → Goes (Own δ) (Own δ') I H I' H' → Q b H') → wt G.X e σ H Q
def dw (G : Gx) (e : Expr) (δ : Env) (Φ : Bool → Env → Prop) : Prop :=
  ∀ σ I H, EnvR G.X.K I H σ δ → XFut G δ I H → ∀ Q : Bool → Hp → Prop, (∀ b δ' I' H', Φ b δ' → EnvR G.X.K I' H' σ δ' → Goes (Own δ) (Own δ') I H I' H' → Q b H') → ww G.X e σ H Q
/-- an operand: a value, or what a slot holds -/
inductive Arg where
  | v (d : D) | s (i : Nat)
def ArgR (K : PySem.W.Frag) (I : Hp) (σ : St) : Arg → V → Prop
  | .v d, u => Rep K I d u
  | .s i, u => σ[i]? = some (some u)
def ArgsR (K : PySem.W.Frag) (I : Hp) (σ : St) : List Arg → List V → Prop
  | [], us => us = []
  | a :: as, us => ∃ u r, us = u :: r ∧ ArgR K I σ a u ∧ ArgsR K I σ as r
def dgs (G : Gx) (es : List Expr) (δ : Env) (Φ : List Arg → Env → Prop) : Prop :=
  ∀ σ I H, EnvR G.X.K I H σ δ → XFut G δ I H → ∀ Q : List V → Hp → Prop, (∀ as δ' vs I' H', Φ as δ' → EnvR G.X.K I' H' σ δ' → ArgsR G.X.K I' σ as vs → Goes (Own δ) (Own δ') I H I' H' → Q vs H') → wes G.X es σ H Q
structure DE where
  nx : Env → Prop
  rt : DV → Env → Prop
  bk : Env → Prop := fun _ => False
  ct : Env → Prop := fun _ => False
structure SFut (G : Gx) (E : DE) (δ : Env) (I H : Hp) (T : Ends) : Prop where
  nx : ∀ σ' δ' I' H', E.nx δ' → EnvR G.X.K I' H' σ' δ' → Goes (Own δ) (Own δ') I H I' H' → T.nx σ' H'
  rt : ∀ r v σ' δ' I' H', E.rt r δ' → EnvR G.X.K I' H' (some v :: σ') (r :: δ') → Goes (Own δ) (Own (r :: δ')) I H I' H' → T.rt v H'
  bk : ∀ σ' δ' I' H', E.bk δ' → EnvR G.X.K I' H' σ' δ' → Goes (Own δ) (Own δ') I H I' H' → T.bk σ' H'
  ct : ∀ σ' δ' I' H', E.ct δ' → EnvR G.X.K I' H' σ' δ' → Goes (Own δ) (Own δ') I H I' H' → T.ct σ' H'
  xc : XFut G δ I H
theorem SFut.go {G : Gx} {E : DE} {δ δ1 : Env} {I H I1 H1 : Hp} {T : Ends} (x : SFut G E δ I H T) (g : Goes (Own δ) (Own δ1) I H I1 H1) (s : Le I1 H1) : SFut G E δ1 I1 H1 T :=
  ⟨fun σ' δ' I' H' a b c => x.nx σ' δ' I' H' a b (g.trans c s), fun r v σ' δ' I' H' a b c => x.rt r v σ' δ' I' H' a b (g.trans c s), fun σ' δ' I' H' a b c => x.bk σ' δ' I' H' a b (g.trans c s), fun σ' δ' I' H' a b c => x.ct σ' δ' I' H' a b (g.trans c s), x.xc.go g s⟩
def ds (G : Gx) (st : Stmt) (δ : Env) (E : DE) : Prop := ∀ σ I H T, EnvR G.X.K I H σ δ → SFut G E δ I H T → ws G.X st T σ H
def dsb (G : Gx) (st : List Stmt) (δ : Env) (E : DE) : Prop := ∀ σ I H T, EnvR G.X.K I H σ δ → SFut G E δ I H T → wb G.X st T σ H

section
variable {G : Gx} {δ : Env} {E : DE}
theorem de_mono {e : Expr} {Φ Φ' : DV → Env → Prop} (h : de G e δ Φ) (m : ∀ r δ', Φ r δ' → Φ' r δ') : de G e δ Φ' := fun σ I H x f Q q => h σ I H x f Q fun r δ' v I' H' a => q r δ' v I' H' (m _ _ a)
theorem dt_mono {e : Expr} {Φ Φ' : Bool → Env → Prop} (h : dt G e δ Φ) (m : ∀ r δ', Φ r δ' → Φ' r δ') : dt G e δ Φ' := fun σ I H x f Q q => h σ I H x f Q fun r δ' I' H' a => q r δ' I' H' (m _ _ a)
/-! ### blocks -/
theorem dsb_nil (h : E.nx δ) : dsb G [] δ E := fun σ I H T x f => pss_nil.to (f.nx σ δ I H h x Goes.refl)
theorem dsb_cons {st : Stmt} {rest : List Stmt} (h : ds G st δ { E with nx := fun δ' => dsb G rest δ' E }) : dsb G (st :: rest) δ E := fun σ I H T x f =>
  (pss_cons PS.of PSs.of).to (h σ I H { T with nx := wb G.X rest T } x ⟨fun σ' δ' I' H' a b c => a σ' I' H' T b (f.go c b.sub), f.rt, f.bk, f.ct, f.xc⟩)
theorem dsb_one {st : Stmt} (h : ds G st δ E) : dsb G [st] δ E := fun σ I H T x f => (pss_one PS.of).to (h σ I H T x f)
theorem ds_pass {pos : Pos} (h : E.nx δ) : ds G (.Pass pos) δ E := fun σ I H T x f => ps_pass.to (f.nx σ δ I H h x Goes.refl)
theorem ds_break {pos : Pos} (h : E.bk δ) : ds G (.Break pos) δ E := fun σ I H T x f => ps_break.to (f.bk σ δ I H h x Goes.refl)
theorem ds_continue {pos : Pos} (h : E.ct δ) : ds G (.Continue pos) δ E := fun σ I H T x f => ps_continue.to (f.ct σ δ I H h x Goes.refl)
theorem Own.of_tail {δ : Env} {r : DV} : ∀ a, Own δ a → Own (r :: δ) a := fun _ h => h.tail
theorem ds_expr {e : Expr} {pos : Pos} (h : de G e δ fun _ δ' => E.nx δ') (hs : swapsWith e none pos.line G.X.env = pure false := by rfl) : ds G (.Expr e pos) δ E := fun σ I H T x f =>
  (ps_expr PE.of hs).to (h σ I H x f.xc (fun _ H1 => T.nx σ H1) fun r δ' v I' H' a b c => f.nx σ δ' I' H' a b.tail (c.sub Own.of_tail))
theorem ds_ret {e : Expr} {pos : Pos} (h : de G e δ E.rt) : ds G (.Return (some e) pos) δ E := fun σ I H T x f =>
  (ps_ret PE.of).to (h σ I H x f.xc T.rt fun r δ' v I' H' a b c => f.rt r v σ δ' I' H' a b c)
theorem ds_retN {pos : Pos} (h : E.rt (.val .non) δ) : ds G (.Return none pos) δ E := fun σ I H T x f =>
  ps_retN.to (f.rt (.val .non) .non σ δ I H h (x.cons_val rfl) (Goes.refl.sub fun a q => own_cons_val.mp q))
theorem ds_if {c : Expr} {a b : List Stmt} {pos : Pos} (h : dt G c δ fun k δ' => if k = true then dsb G a δ' E else dsb G b δ' E) : ds G (.If c a b pos) δ E := fun σ I H T x f =>
  (ps_if PT.of PSs.of PSs.of).to (h σ I H x f.xc _ fun k δ' I' H' q y g => by
    cases k with
    | true =>
      rw [if_pos rfl] at q ⊢
      exact q σ I' H' T y (f.go g y.sub)
    | false =>
      rw [if_neg Bool.false_ne_true] at q ⊢
      exact q σ I' H' T y (f.go g y.sub))
/-- the environment with slot i put to r -/
def Put (δ : Env) (i : Nat) (r : DV) (k : Env → Prop) : Prop := k (δ.set i r)
inductive SetAt : Env → Nat → DV → Env → Prop where
  | z {x r : DV} {δ : Env} : SetAt (x :: δ) 0 r (r :: δ)
  | s {x r : DV} {δ δ' : Env} {i : Nat} : SetAt δ i r δ' → SetAt (x :: δ) (i + 1) r (x :: δ')
theorem SetAt.eq {δ δ' : Env} {i : Nat} {r : DV} (h : SetAt δ i r δ') : δ.set i r = δ' := by
  induction h with
  | z => rfl
  | s _ ih => rw [List.set_cons_succ, ih]
theorem put_go {i : Nat} {r : DV} {δ' : Env} {k : Env → Prop} (s : SetAt δ i r δ') (h : k δ') : Put δ i r k := by
  unfold Put
  rw [s.eq]
  exact h
/-- the place of a name -/
inductive Nth : List Str → Nat → Str → Prop where
  | z {x : Str} {N : List Str} : Nth (x :: N) 0 x
  | s {x y : Str} {N : List Str} {i : Nat} : Nth N i x → Nth (y :: N) (i + 1) x
theorem Nth.eq {N : List Str} {i : Nat} {x : Str} (h : Nth N i x) : N[i]? = some x := by
  induction h with
  | z => rfl
  | s _ ih => simpa using ih
theorem ds_asg {i : Nat} {x : Str} {e : Expr} {pos pos' : Pos} (hi : Nth G.X.N i x) (h : de G e δ fun r δ' => Put δ' i r E.nx) (hN : G.X.N.Nodup) (hx : Loc G.X.env.scope x)
    (hs : swapsWith e (some (.Name x pos')) pos.line G.X.env = pure false) (hf : G.X.fn x = true ∨ G.X.env.scope.names.lookup x = some .local) : ds G (.Assign [.Name x pos'] e pos) δ E := fun σ I H T y f =>
  (ps_set hN hi.eq hx PE.of hs hf).to (h σ I H y f.xc (fun v H1 => T.nx (σ.set i (some v)) H1) fun r δ' v I' H' a b c => f.nx _ _ I' H' a (b.set i) (c.sub fun _ => own_set))

/-! ### operands -/
/-- the value on top is held fast -/
theorem top_fast {K : PySem.W.Frag} {σ : St} {I H I' H' : Hp} {r : DV} {δ' : Env} {v : V} {P : Addr → Prop} (x : EnvR K I' H' (some v :: σ) (r :: δ')) (g : Goes P (Own (r :: δ')) I H I' H') (hr : r ≠ .no) :
    ∃ I'', EnvR K I'' H' σ δ' ∧ Rep K I'' r.toD v ∧ Goes P (Own δ') I H I'' H' := by
  cases r with
  | no => exact absurd rfl hr
  | val d =>
    obtain ⟨u, h1, h2⟩ := x.head_val
    cases h1
    exact ⟨I', x.tail, h2, g.sub fun _ q => q.tail⟩
  | own p c =>
    obtain ⟨I'', y, g2⟩ := x.freeze
    obtain ⟨u, h1, h2⟩ := y.head_val
    cases h1
    exact ⟨I'', y.tail, h2, g.trans g2 x.sub⟩
theorem ArgsR.mono {K : PySem.W.Frag} {I I' : Hp} {σ : St} (e : Le I I') : ∀ (as : List Arg) (vs : List V), ArgsR K I σ as vs → ArgsR K I' σ as vs
  | [], _, h => h
  | .v d :: as, _, h => by
    obtain ⟨u, r, h1, h2, h3⟩ := h
    exact ⟨u, r, h1, Rep.mono e d u h2, ArgsR.mono e as r h3⟩
  | .s i :: as, _, h => by
    obtain ⟨u, r, h1, h2, h3⟩ := h
    exact ⟨u, r, h1, h2, ArgsR.mono e as r h3⟩
theorem we_mono {X : Cx} {e : Expr} {σ : St} {H : Hp} {Q Q' : VK} (h : we X e σ H Q) (m : ∀ v H', Q v H' → Q' v H') : we X e σ H Q' := fun pins s I =>
  thn (h pins s I) fun u s1 ⟨v, H1, I1, r, q⟩ => ⟨v, H1, I1, r, m _ _ q⟩
theorem dgs_nil {Φ : List Arg → Env → Prop} (h : Φ [] δ) : dgs G [] δ Φ := fun σ I H x f Q q => q [] δ [] I H h x rfl Goes.refl
theorem dgs_cons0 {e : Expr} {es : List Expr} {Φ : List Arg → Env → Prop} (h : de G e δ fun r δ1 => r ≠ .no ∧ dgs G es δ1 fun as δ2 => Φ (.v r.toD :: as) δ2) : dgs G (e :: es) δ Φ := fun σ I H x f Q q =>
  h σ I H x f _ fun r δ1 v I1 H1 a b c => by
    obtain ⟨I2, y, rp, g⟩ := top_fast b c a.1
    refine a.2 σ I2 H1 y (f.go g y.sub) _ fun as δ2 vs I3 H3 a3 y3 ar g3 => ?_
    exact q _ δ2 (v :: vs) I3 H3 a3 y3 ⟨v, vs, rfl, Rep.mono g3.le _ _ rp, ar⟩ (g.trans g3 y.sub)
theorem dgs_cons {e : Expr} {es : List Expr} {Φ : List Arg → Env → Prop} (h : de G e δ fun r δ1 => ∃ d, Fast r d ∧ dgs G es δ1 fun as δ2 => Φ (.v d :: as) δ2) : dgs G (e :: es) δ Φ :=
  dgs_cons0 (de_mono h fun r δ' ⟨d, fs, k⟩ => ⟨fs.ne, by rw [fs.eq]; exact k⟩)
theorem we_slot {X : Cx} {i : Nat} {x : Str} {pos : Pos} {v : V} {σ : St} {H : Hp} {Q : VK} (hi : Nth X.N i x) (hv : Vis X.env.scope x) (hd : (x == ("__debug__" : Str)) = false) (hcd : (x == ("__classdict__" : Str)) = false) (h : σ[i]? = some (some v)) (q : Q v H) : we X (.Name x pos) σ H Q :=
  (pe_var hi.eq hv hd hcd).to ⟨v, h, q⟩
/-- a slot's own thing as an operand: it stays where it is -/
theorem dgs_slot {i : Nat} {x : Str} {pos : Pos} {p : Addr} {c : Cell} {es : List Expr} {Φ : List Arg → Env → Prop} (hi : Nth G.X.N i x) (hδ : δ[i]? = some (.own p c)) (h : dgs G es δ fun as δ2 => Φ (.s i :: as) δ2)
    (hv : Vis G.X.env.scope x) (hd : (x == ("__debug__" : Str)) = false) (hcd : (x == ("__classdict__" : Str)) = false) : dgs G (.Name x pos :: es) δ Φ := fun σ I H y f Q q => by
  obtain ⟨h1, h2, h3⟩ := y.own i p c hδ
  refine we_slot hi hv hd hcd h1 ?_
  refine h σ I H y f _ fun as δ2 vs I3 H3 a3 y3 ar g3 => ?_
  exact q _ δ2 (.ref p :: vs) I3 H3 a3 y3 ⟨_, vs, rfl, h1, ar⟩ g3
/-! ### names and constants -/
theorem de_val {i : Nat} {x : Str} {pos : Pos} {d : D} {Φ : DV → Env → Prop} (hi : Nth G.X.N i x) (hδ : δ[i]? = some (.val d)) (h : Φ (.val d) δ)
    (hv : Vis G.X.env.scope x) (hd : (x == ("__debug__" : Str)) = false) (hcd : (x == ("__classdict__" : Str)) = false) : de G (.Name x pos) δ Φ := fun σ I H y f Q q => by
  obtain ⟨v, h1, h2⟩ := y.val i d hδ
  exact we_slot hi hv hd hcd h1 (q _ δ v I H h (y.cons_val h2) (Goes.refl.sub fun a z => own_cons_val.mp z))
/-- what a slot owns goes out (the slot forgets it) -/
theorem de_move {i : Nat} {x : Str} {pos : Pos} {p : Addr} {c : Cell} {Φ : DV → Env → Prop} (hi : Nth G.X.N i x) (hδ : δ[i]? = some (.own p c)) (h : Put δ i .no (Φ (.own p c)))
    (hv : Vis G.X.env.scope x) (hd : (x == ("__debug__" : Str)) = false) (hcd : (x == ("__classdict__" : Str)) = false) : de G (.Name x pos) δ Φ := fun σ I H y f Q q => by
  obtain ⟨h1, h2, h3⟩ := y.own i p c hδ
  have hl : i < δ.length := (List.getElem?_eq_some_iff.mp hδ).1
  have y1 : EnvR G.X.K I H σ (δ.set i .no) := by
    have := y.forget i (some (.ref p))
    have e : σ.set i (some (V.ref p)) = σ := by
      apply List.ext_getElem?
      intro j
      by_cases hj : i = j
      · subst hj
        rw [List.getElem?_set_self (by rw [y.len]; exact hl), h1]
      · rw [List.getElem?_set_ne hj]
    rw [e] at this
    exact this
  have nn : ¬ Own (δ.set i .no) p := fun ⟨j, c', e⟩ => by
    by_cases hj : j = i
    · subst hj
      rw [List.getElem?_set_self hl] at e
      cases e
    · rw [List.getElem?_set_ne (Ne.symm hj)] at e
      exact hj (y.inj j i p _ _ e hδ)
  refine we_slot hi hv hd hcd h1 (q (.own p c) _ (.ref p) I H h (y1.cons_own nn h2 h3) ?_)
  refine ⟨Le.refl _, fun a o ha hi' _ => ⟨ha, hi'⟩, fun a ha => .inl ?_⟩
  obtain ⟨j, c', e⟩ := ha
  cases j with
  | zero =>
    simp at e
    obtain ⟨rfl, rfl⟩ := e
    exact ⟨i, _, hδ⟩
  | succ j => exact own_forget ⟨j, c', by simpa using e⟩
theorem de_const {v : V} {d : D} {e : Expr} {Φ : DV → Env → Prop} (p : PE G.X e (tC v)) (r : ∀ I, Rep G.X.K I d v) (h : Φ (.val d) δ) : de G e δ Φ := fun σ I H y f Q q =>
  p.to (q _ δ v I H h (y.cons_val (r I)) (Goes.refl.sub fun a z => own_cons_val.mp z))
variable {Φ : DV → Env → Prop} {pos : Pos}
theorem de_int {i : Int} {j} (h : Φ (.val (.int i)) δ) : de G (.Constant (.int i) j pos) δ Φ := de_const (d := .int i) pe_int (fun _ => rfl) h
theorem de_bl {b : Bool} {j} (h : Φ (.val (.bl b)) δ) : de G (.Constant (.bool b) j pos) δ Φ := de_const (d := .bl b) pe_bl (fun _ => rfl) h
theorem de_non {j} (h : Φ (.val .non) δ) : de G (.Constant .none j pos) δ Φ := de_const (d := .non) pe_non (fun _ => rfl) h
theorem de_str {x : Str} {j} (h : Φ (.val (.str x)) δ) : de G (.Constant (.str x) j pos) δ Φ := de_const (d := .str x) pe_str (fun _ => rfl) h
theorem de_glob {x : Str} {v : V} {u : Value} {d : D} (hm : G.X.mg x = some u) (r : RelV v u) (rd : ∀ I, Rep G.X.K I d v) (h : Φ (.val d) δ) (hg : Gl G.X x) (hd : (x == ("__debug__" : Str)) = false) : de G (.Name x pos) δ Φ :=
  de_const (pe_glob hg hm r hd) rd h
end
end Zd
namespace Zd
open PySem L2
/-! ### what an operation on data gives -/
structure Res (K : PySem.W.Frag) (I H I' H' : Hp) (r : DV) (v : V) : Prop where
  le : Le I I'
  hh : ∀ a o, H a = some o → H' a = some o
  nw : ∀ a o, H a = some o → I a = none → I' a = none
  sub : Le I' H'
  rel : match r with | .no => False | .val d => Rep K I' d v | .own p c => v = .ref p ∧ I' p = none ∧ H p = none ∧ CellR K I' H' p c
/-- R, given data ds, gives what Ψ allows -/
def DR (K : PySem.W.Frag) (R : List V → Hp → VK → Prop) (ds : List D) (Ψ : DV → Prop) : Prop :=
  ∀ I H vs, Le I H → Reps K I ds vs → ∀ Q : VK, (∀ r v I' H', Ψ r → Res K I H I' H' r v → Q v H') → R vs H Q
theorem Res.val {K : PySem.W.Frag} {I H : Hp} {d : D} {v : V} (s : Le I H) (h : Rep K I d v) : Res K I H I H (.val d) v := ⟨Le.refl _, fun _ _ h => h, fun _ _ _ h => h, s, h⟩
/-- a new object, held fast -/
theorem Res.fast {K : PySem.W.Frag} {I H : Hp} {d : D} {p : Addr} {o : HO} (s : Le I H) (n : H p = none) (h : Rep K (upd I p o) d (.ref p)) : Res K I H (upd I p o) (upd H p o) (.val d) (.ref p) := by
  have ni : I p = none := by
    cases e : I p with
    | none => rfl
    | some u => rw [s _ _ e] at n; cases n
  refine ⟨Le.new ni, Le.new n, fun a u h i => ?_, fun a u e => ?_, h⟩
  · rw [upd_ne (ne_of_none h n)]
    exact i
  · by_cases ha : a = p
    · subst ha
      rw [upd_same] at e ⊢
      exact e
    · rw [upd_ne ha] at e ⊢
      exact s _ _ e
/-- a new object of one's own -/
theorem Res.own {K : PySem.W.Frag} {I H : Hp} {c : Cell} {p : Addr} {o : HO} (s : Le I H) (n : H p = none) (h : CellR K I (upd H p o) p c) : Res K I H I (upd H p o) (.own p c) (.ref p) := by
  have ni : I p = none := by
    cases e : I p with
    | none => rfl
    | some u => rw [s _ _ e] at n; cases n
  exact ⟨Le.refl _, Le.new n, fun _ _ _ i => i, s.trans (Le.new n), rfl, ni, n, h⟩
mutual
def flatD : D → Bool
  | .non => true
  | .bl _ => true
  | .int _ => true
  | .str _ => true
  | .raw _ => true
  | .tup ds => flatDs ds
  | _ => false
def flatDs : List D → Bool
  | [] => true
  | d :: ds => flatD d && flatDs ds
end
def flatV : DV → Bool
  | .no => true
  | .val d => flatD d
  | .own _ (.lst ds) => flatDs ds
  | _ => false
/-- the data of operands; b: something of one's own is among them -/
inductive ArgsD (δ : Env) : List Arg → List D → Bool → Prop where
  | nil : ArgsD δ [] [] false
  | v {d : D} {as : List Arg} {ds : List D} {b : Bool} : ArgsD δ as ds b → ArgsD δ (.v d :: as) (d :: ds) b
  | sv {i : Nat} {d : D} {as : List Arg} {ds : List D} {b : Bool} : δ[i]? = some (.val d) → ArgsD δ as ds b → ArgsD δ (.s i :: as) (d :: ds) b
  | so {i : Nat} {p : Addr} {c : Cell} {d : D} {as : List Arg} {ds : List D} {b : Bool} : δ[i]? = some (.own p c) → Fast (.own p c) d → ArgsD δ as ds b → ArgsD δ (.s i :: as) (d :: ds) true
def notTup : HO → Prop
  | .tup _ => False
  | .frz _ _ => False
  | .xd _ => False
  | _ => True
structure Bor (δ : Env) (I1 H1 I2 : Hp) : Prop where
  le : Le I1 I2
  sub : Le I2 H1
  new : ∀ a o, I1 a = none → I2 a = some o → Own δ a ∧ notTup o
theorem Bor.refl {δ : Env} {I H : Hp} (s : Le I H) : Bor δ I H I := ⟨Le.refl _, s, fun a o h h' => by rw [h] at h'; cases h'⟩
theorem borrow {K : PySem.W.Frag} {I H : Hp} {σ : St} {δ : Env} (x : EnvR K I H σ δ) : ∀ {as : List Arg} {vs : List V} {ds : List D} {b : Bool}, ArgsR K I σ as vs → ArgsD δ as ds b →
    ∃ I2, Bor δ I H I2 ∧ Reps K I2 ds vs ∧ (b = false → I2 = I)
  | _, _, _, _, hr, .nil => ⟨I, Bor.refl x.sub, hr, fun _ => rfl⟩
  | _, _, _, _, hr, .v hd => by
    obtain ⟨u, r, rfl, h1, h2⟩ := hr
    obtain ⟨I2, h3, h4, h5⟩ := borrow x h2 hd
    exact ⟨I2, h3, ⟨u, r, rfl, Rep.mono h3.le _ _ h1, h4⟩, h5⟩
  | _, _, _, _, hr, .sv e hd => by
    obtain ⟨u, r, rfl, h1, h2⟩ := hr
    obtain ⟨I2, h3, h4, h5⟩ := borrow x h2 hd
    obtain ⟨v, g1, g2⟩ := x.val _ _ e
    have h1 : _ = some (some u) := h1
    rw [g1] at h1
    cases h1
    exact ⟨I2, h3, ⟨_, r, rfl, Rep.mono h3.le _ _ g2, h4⟩, h5⟩
  | _, _, _, _, hr, .so (p := p) (c := c) e fs hd => by
    cases fs.eq
    obtain ⟨u, r, rfl, h1, h2⟩ := hr
    obtain ⟨I2, h3, h4, h5⟩ := borrow x h2 hd
    obtain ⟨g1, g2, g3⟩ := x.own _ _ _ e
    have h1 : _ = some (some u) := h1
    rw [g1] at h1
    cases h1
    by_cases hab : ∃ P, c = .ab P
    · obtain ⟨P, rfl⟩ := hab
      exact ⟨I2, h3, ⟨_, r, rfl, rfl, h4⟩, fun z => by cases z⟩
    obtain ⟨o, ho⟩ := g3.there
    have le2 : Le I2 (upd I2 p o) := fun a u ha => by
      by_cases hap : a = p
      · rw [hap] at ha ⊢
        have := h3.sub _ _ ha
        rw [ho] at this
        cases this
        exact upd_same
      · rw [upd_ne hap]; exact ha
    have no : notTup o := by
      cases c with
      | lst _ => obtain ⟨_, q, _⟩ := g3; rw [q] at ho; cases ho; trivial
      | dic _ _ => obtain ⟨_, q, _⟩ := g3; rw [q] at ho; cases ho; trivial
      | obj _ _ _ => obtain ⟨_, _, q, _⟩ := g3; rw [q] at ho; cases ho; trivial
      | ab P => exact absurd ⟨P, rfl⟩ hab
    refine ⟨upd I2 p o, ⟨h3.le.trans le2, fun a u ha => ?_, fun a u ha hu => ?_⟩, ⟨_, r, rfl, ?_, Reps.mono le2 _ _ h4⟩, fun z => by cases z⟩
    · by_cases hap : a = p
      · rw [hap] at ha ⊢
        rw [upd_same] at ha
        cases ha
        exact ho
      · rw [upd_ne hap] at ha
        exact h3.sub _ _ ha
    · by_cases hap : a = p
      · rw [hap] at hu ⊢
        rw [upd_same] at hu
        cases hu
        exact ⟨⟨_, _, e⟩, no⟩
      · rw [upd_ne hap] at hu
        exact h3.new a u ha hu
    · have le3 : Le I (upd I2 p o) := h3.le.trans le2
      cases c with
      | lst ds =>
        obtain ⟨xs, q1, q2⟩ := g3
        rw [q1] at ho; cases ho
        exact ⟨p, xs, rfl, upd_same, Reps.mono le3 _ _ q2⟩
      | dic ks ds =>
        obtain ⟨xs, q1, q2, q3⟩ := g3
        rw [q1] at ho; cases ho
        exact ⟨p, xs, rfl, .inl upd_same, q2, Reps.mono le3 _ _ q3⟩
      | obj C ks ds =>
        obtain ⟨dx, xs, q1, q2, q3⟩ := g3
        rw [q1] at ho; cases ho
        exact ⟨p, dx, xs, rfl, upd_same, q2, Reps.mono le3 _ _ q3⟩
      | ab P => exact absurd ⟨P, rfl⟩ hab
/-- I' without what was lent -/
noncomputable def unlend (I1 I2 I' : Hp) : Hp := fun a => open Classical in if I1 a = none ∧ I2 a ≠ none then none else I' a
section
variable {K : PySem.W.Frag} {I1 H1 I2 I' H' : Hp} {σ : St} {δ : Env}
theorem unlend_of {a : Addr} (h : ¬ (I1 a = none ∧ I2 a ≠ none)) : unlend I1 I2 I' a = I' a := by
  unfold unlend
  rw [if_neg h]
theorem unlend_none {a : Addr} (h : I1 a = none ∧ I2 a ≠ none) : unlend I1 I2 I' a = none := by
  unfold unlend
  rw [if_pos h]
theorem unlend_le (l : Le I' H') : Le (unlend I1 I2 I') H' := fun a o h => by
  by_cases hc : I1 a = none ∧ I2 a ≠ none
  · rw [unlend_none hc] at h; cases h
  · rw [unlend_of hc] at h; exact l _ _ h
theorem unlend_low (l : Le I1 I') : Le I1 (unlend I1 I2 I') := fun a o h => by
  rw [unlend_of (fun hc => by rw [hc.1] at h; cases h)]
  exact l _ _ h
mutual
theorem flat_rep (b : Bor δ I1 H1 I2) (l : Le I2 I') : ∀ (d : D) (v : V), flatD d = true → Rep K I' d v → Rep K (unlend I1 I2 I') d v
  | .non, _, _, h => h
  | .bl _, _, _, h => h
  | .int _, _, _, h => h
  | .str _, _, _, h => h
  | .raw _, _, _, h => h
  | .lst _, _, f, _ => by simp [flatD] at f
  | .klst _, _, f, _ => by simp [flatD] at f
  | .dic _ _, _, f, _ => by simp [flatD] at f
  | .obj _ _ _, _, f, _ => by simp [flatD] at f
  | .xex _ _ _ _, _, f, _ => by simp [flatD] at f
  | .tup ds, _, f, h => by
    obtain ⟨a, xs, h1, h2, h3⟩ := h
    refine ⟨a, xs, h1, ?_, flat_reps b l ds xs (by simpa [flatD] using f) h3⟩
    rcases h2 with h2 | h2
    · have na : ¬ (I1 a = none ∧ I2 a ≠ none) := fun ⟨n1, n2⟩ => by
        cases e : I2 a with
        | none => exact n2 e
        | some o =>
          have := (b.new a o n1 e).2
          have e' := l _ _ e
          rw [h2] at e'; cases e'; exact this
      exact .inl (by rw [unlend_of na]; exact h2)
    · exact .inr h2
theorem flat_reps (b : Bor δ I1 H1 I2) (l : Le I2 I') : ∀ (ds : List D) (vs : List V), flatDs ds = true → Reps K I' ds vs → Reps K (unlend I1 I2 I') ds vs
  | [], _, _, h => h
  | d :: ds, _, f, h => by
    obtain ⟨v, r, h1, h2, h3⟩ := h
    simp [flatDs] at f
    exact ⟨v, r, h1, flat_rep b l d v f.1 h2, flat_reps b l ds r f.2 h3⟩
end
/-- behind an operation on operands some of which were lent -/
theorem unlent {r : DV} {v : V} {b : Bool} (x : EnvR K I1 H1 σ δ) (bo : Bor δ I1 H1 I2) (hb : b = false → I2 = I1) (hf : b = true → flatV r = true) (re : Res K I2 H1 I' H' r v) :
    ∃ I'', EnvR K I'' H' (some v :: σ) (r :: δ) ∧ Goes (Own δ) (Own (r :: δ)) I1 H1 I'' H' := by
  have nr : r ≠ .no := fun e => by
    have := re.rel
    rw [e] at this
    exact this
  cases b with
  | false =>
    cases hb rfl
    have x1 := x.grow re.le re.sub re.hh re.nw
    refine ⟨I', ?_, re.le, fun a o h i _ => ⟨re.hh a o h, re.nw a o h i⟩, fun a ha => ?_⟩
    · cases r with
      | no => exact absurd rfl nr
      | val d => exact x1.cons_val re.rel
      | own p c =>
        obtain ⟨h1, h2, h3, h4⟩ := re.rel
        subst h1
        refine x1.cons_own (fun ⟨i, c', e⟩ => ?_) h2 h4
        obtain ⟨_, _, g⟩ := x.own i p c' e
        obtain ⟨o, ho⟩ := g.there
        rw [h3] at ho; cases ho
    · cases r with
      | no => exact absurd rfl nr
      | val d => exact .inl (own_cons_val.mp ha)
      | own p c =>
        obtain ⟨i, c', e⟩ := ha
        cases i with
        | zero =>
          simp at e
          obtain ⟨rfl, rfl⟩ := e
          exact .inr re.rel.2.2.1
        | succ i => exact .inl ⟨i, c', by simpa using e⟩
  | true =>
    have hf := hf rfl
    have low : Le I1 (unlend I1 I2 I') := unlend_low (bo.le.trans re.le)
    have nw : ∀ a o, H1 a = some o → I1 a = none → unlend I1 I2 I' a = none := fun a o h i => by
      by_cases hc : I1 a = none ∧ I2 a ≠ none
      · exact unlend_none hc
      · rw [unlend_of hc]
        refine re.nw a o h ?_
        cases e : I2 a with
        | none => rfl
        | some u => exact absurd ⟨i, by rw [e]; simp⟩ hc
    have x1 := x.grow low (unlend_le re.sub) re.hh nw
    refine ⟨_, ?_, low, fun a o h i _ => ⟨re.hh a o h, nw a o h i⟩, fun a ha => ?_⟩
    · cases r with
      | no => exact absurd rfl nr
      | val d => exact x1.cons_val (flat_rep bo re.le d v hf re.rel)
      | own p c =>
        obtain ⟨h1, h2, h3, h4⟩ := re.rel
        subst h1
        refine x1.cons_own (fun ⟨i, c', e⟩ => ?_) ?_ ?_
        · obtain ⟨_, _, g⟩ := x.own i p c' e
          obtain ⟨o, ho⟩ := g.there
          rw [h3] at ho; cases ho
        · by_cases hc : I1 p = none ∧ I2 p ≠ none
          · exact unlend_none hc
          · rw [unlend_of hc]; exact h2
        · cases c with
          | lst ds =>
            obtain ⟨xs, g1, g2⟩ := h4
            exact ⟨xs, g1, flat_reps bo re.le ds xs hf g2⟩
          | dic _ _ => cases hf
          | obj _ _ _ => cases hf
          | ab P => cases hf
    · cases r with
      | no => exact absurd rfl nr
      | val d => exact .inl (own_cons_val.mp ha)
      | own p c =>
        obtain ⟨i, c', e⟩ := ha
        cases i with
        | zero =>
          simp at e
          obtain ⟨rfl, rfl⟩ := e
          exact .inr re.rel.2.2.1
        | succ i => exact .inl ⟨i, c', by simpa using e⟩
end

section
variable {G : Gx} {δ : Env} {E : DE} {Φ : DV → Env → Prop} {pos : Pos}
/-- an expression that is an operation on the values of some expressions -/
theorem de_R {e : Expr} {es : List Expr} {R : List V → Hp → VK → Prop} (hR : ∀ σ H Q, wes G.X es σ H (fun vs H1 => R vs H1 Q) → we G.X e σ H Q)
    (h : dgs G es δ fun as δ1 => ∃ ds b, ArgsD δ1 as ds b ∧ DR G.X.K R ds fun r => (b = true → flatV r = true) ∧ Φ r δ1) : de G e δ Φ := fun σ I H x f Q q =>
  hR σ H Q (h σ I H x f _ fun as δ1 vs I1 H1 ⟨ds, b, hd, hr⟩ y ar g => by
    obtain ⟨I2, bo, rp, hb⟩ := borrow y ar hd
    refine hr I2 H1 vs bo.sub rp Q fun r v I' H' ⟨hf, hΦ⟩ re => ?_
    obtain ⟨I'', z, g'⟩ := unlent y bo hb hf re
    exact q r δ1 v I'' H' hΦ z (g.trans g' y.sub))
def R2l (r : R2) : List V → Hp → VK → Prop := fun vs H Q => ∃ x y, vs = [x, y] ∧ r x y H Q
def R1l (r : V → Hp → VK → Prop) : List V → Hp → VK → Prop := fun vs H Q => ∃ x, vs = [x] ∧ r x H Q
theorem wes2 {X : Cx} {a b : Expr} {σ : St} {H : Hp} {r : R2} {Q : VK} (h : wes X [a, b] σ H fun vs H1 => R2l r vs H1 Q) : we X a σ H fun x H1 => we X b σ H1 fun y H2 => r x y H2 Q :=
  we_mono h fun x H1 h1 => we_mono h1 fun y H2 h2 => by
    obtain ⟨u, v, e, q⟩ := h2
    cases e
    exact q
theorem wes1 {X : Cx} {a : Expr} {σ : St} {H : Hp} {r : V → Hp → VK → Prop} {Q : VK} (h : wes X [a] σ H fun vs H1 => R1l r vs H1 Q) : we X a σ H fun x H1 => r x H1 Q :=
  we_mono h fun x H1 h1 => by
    obtain ⟨u, e, q⟩ := h1
    cases e
    exact q
/-- what operands are asked -/
abbrev Asked (G : Gx) (R : List V → Hp → VK → Prop) (Φ : DV → Env → Prop) : List Arg → Env → Prop := fun as δ1 => ∃ ds b, ArgsD δ1 as ds b ∧ DR G.X.K R ds fun r => (b = true → flatV r = true) ∧ Φ r δ1
theorem de_bin {op : Operator} {a b : Expr} (h : dgs G [a, b] δ (Asked G (R2l (wop G.X (binaryOp op))) Φ)) : de G (.BinOp a op b pos) δ Φ :=
  de_R (fun σ H Q h => (pe_op OpR.of PE.of PE.of).to (wes2 h)) h
theorem de_un {op : UnaryOp} {a : Expr} (h : dgs G [a] δ (Asked G (R1l (wun G.X (unaryOp op))) Φ)) : de G (.UnaryOp op a pos) δ Φ :=
  de_R (fun σ H Q h => (pe_un UnR.of PE.of).to (wes1 h)) h
theorem de_cmp {op : CmpOp} {a b : Expr} (h : dgs G [a, b] δ (Asked G (R2l (wop G.X (compareOp op))) Φ)) (hm : behindInMarks op b = false) : de G (.Compare a [op] [b] pos) δ Φ :=
  de_R (fun σ H Q h => (pe_cmpR OpR.of PE.of PE.of hm).to (wes2 h)) h
/-! ### tests -/
/-- what is True, what False -/
inductive TruD : D → Bool → Prop where
  | non : TruD .non false
  | bl {b : Bool} : TruD (.bl b) b
  | int {i : Int} : TruD (.int i) (i != 0)
  | str {s : Str} (h : s.length ≤ sizeLine) : TruD (.str s) ((s.length : Int) != 0)
  | lst {ds : List D} : TruD (.lst ds) (!ds.isEmpty)
  | tup {ds : List D} : TruD (.tup ds) (!ds.isEmpty)
theorem empty_reps {K : PySem.W.Frag} {I : Hp} {ds : List D} {vs : List V} (h : Reps K I ds vs) : vs.isEmpty = ds.isEmpty := by
  cases ds with
  | nil => cases (show _ = _ from h); rfl
  | cons d ds => obtain ⟨v, r, rfl, _, _⟩ := h; rfl
theorem TruD.to {K : PySem.W.Frag} {I H : Hp} {d : D} {v : V} {b : Bool} (t : TruD d b) (s : Le I H) (r : Rep K I d v) : TruV K v H b := by
  cases t with
  | non => cases (show _ = _ from r); rfl
  | bl => cases (show _ = _ from r); rfl
  | int => cases (show _ = _ from r); rfl
  | str h => cases (show _ = _ from r); exact ⟨h, rfl⟩
  | lst => obtain ⟨a, xs, rfl, h1, h2⟩ := r; exact .inl ⟨xs, SqL.of (s _ _ h1), by rw [empty_reps h2]⟩
  | tup => obtain ⟨a, xs, rfl, h1, h2⟩ := r; exact .inr (.inl ⟨xs, (s.sqU h1).t, by rw [empty_reps h2]⟩)
/-- the truth of a value (of a slot's own list, too) -/
theorem dt_tru {a : Expr} {Φ : Bool → Env → Prop} (h : dgs G [a] δ fun as δ1 => ∃ d k b, ArgsD δ1 as [d] b ∧ TruD d k ∧ Φ k δ1)
    (he : ∀ whole, isTrue a G.X.env whole = (do let v ← whole; standAt a.pos; holding [v] (truthy v))) : dt G a δ Φ := fun σ I H x f Q q =>
  (pt_truth PE.of he).to (we_mono (h σ I H x f (fun vs H1 => ∃ v k, vs = [v] ∧ TruV G.X.K v H1 k ∧ Q k H1) fun as δ1 vs I1 H1 ⟨d, k, b, hd, ht, hΦ⟩ y ar g => by
    obtain ⟨I2, bo, rp, hb⟩ := borrow y ar hd
    obtain ⟨v, r, rfl, h1, h2⟩ := rp
    cases (show _ = _ from h2)
    exact ⟨v, k, rfl, ht.to bo.sub h1, q k δ1 I1 H1 hΦ y g⟩) fun v H1 ⟨u, k, e, t, q'⟩ => by
      cases e
      exact ⟨k, t, q'⟩)
theorem dt_cmp {op : CmpOp} {a b : Expr} {Φ : Bool → Env → Prop} (h : dgs G [a, b] δ (Asked G (R2l (wop G.X (compareOp op))) fun r δ1 => ∃ k, r = .val (.bl k) ∧ Φ k δ1)) (hm : behindInMarks op b = false) :
    dt G (.Compare a [op] [b] pos) δ Φ := fun σ I H x f Q q =>
  (pt_cmpR OpR.of PE.of PE.of hm).to (wes2 (h σ I H x f _ fun as δ1 vs I1 H1 ⟨ds, b, hd, hr⟩ y ar g => by
    obtain ⟨I2, bo, rp, hb⟩ := borrow y ar hd
    refine hr I2 H1 vs bo.sub rp _ fun r v I' H' ⟨hf, k, hk, hΦ⟩ re => ?_
    obtain ⟨I'', z, g'⟩ := unlent y bo hb hf re
    subst hk
    obtain ⟨u, h1, h2⟩ := z.head_val
    cases h1
    cases (show _ = _ from h2)
    exact ⟨k, rfl, q k δ1 I'' H' hΦ z.tail ((g.trans g' y.sub).sub fun a h => h.tail)⟩))
theorem dt_not {a : Expr} {Φ : Bool → Env → Prop} (h : dt G a δ fun k δ1 => Φ (!k) δ1) : dt G (.UnaryOp .Not a pos) δ Φ := fun σ I H x f Q q =>
  (pt_not PT.of).to (h σ I H x f _ fun b δ' I' H' a y g => q (!b) δ' I' H' a y g)
theorem dt_bool {op : BoolOp} {es : List Expr} {Φ : Bool → Env → Prop} (h : dw G (.BoolOp op es pos) δ Φ) : dt G (.BoolOp op es pos) δ Φ := fun σ I H x f Q q =>
  PW.of.pt.to (h σ I H x f Q q)
end
end Zd
namespace Zd
open PySem PySem.Spec PyProof.Rows L2
section
variable {G : Gx} {δ : Env} {E : DE} {Φ : DV → Env → Prop} {pos : Pos}
/-! ### and, or, not, if as an expression -/
theorem dw_and1 {a : Expr} {Φ : Bool → Env → Prop} (h : dt G a δ Φ) : dw G (.BoolOp .And [a] pos) δ Φ := fun σ I H x f Q q => (pw_and1 PT.of).to (h σ I H x f Q q)
theorem dw_or1 {a : Expr} {Φ : Bool → Env → Prop} (h : dt G a δ Φ) : dw G (.BoolOp .Or [a] pos) δ Φ := fun σ I H x f Q q => (pw_or1 PT.of).to (h σ I H x f Q q)
theorem dw_and {a b : Expr} {rest : List Expr} {Φ : Bool → Env → Prop} (h : dt G a δ fun k δ1 => if k = true then dw G (.BoolOp .And (b :: rest) pos) δ1 Φ else Φ false δ1) : dw G (.BoolOp .And (a :: b :: rest) pos) δ Φ := fun σ I H x f Q q =>
  (pw_and PT.of PW.of).to (h σ I H x f _ fun k δ1 I1 H1 a1 y g => by
    cases k with
    | true =>
      rw [if_pos rfl] at a1 ⊢
      exact a1 σ I1 H1 y (f.go g y.sub) Q fun b δ' I' H' a2 y2 g2 => q b δ' I' H' a2 y2 (g.trans g2 y.sub)
    | false =>
      rw [if_neg Bool.false_ne_true] at a1 ⊢
      exact q false δ1 I1 H1 a1 y g)
theorem dw_or {a b : Expr} {rest : List Expr} {Φ : Bool → Env → Prop} (h : dt G a δ fun k δ1 => if k = true then Φ true δ1 else dw G (.BoolOp .Or (b :: rest) pos) δ1 Φ) : dw G (.BoolOp .Or (a :: b :: rest) pos) δ Φ := fun σ I H x f Q q =>
  (pw_or PT.of PW.of).to (h σ I H x f _ fun k δ1 I1 H1 a1 y g => by
    cases k with
    | true =>
      rw [if_pos rfl] at a1 ⊢
      exact q true δ1 I1 H1 a1 y g
    | false =>
      rw [if_neg Bool.false_ne_true] at a1 ⊢
      exact a1 σ I1 H1 y (f.go g y.sub) Q fun b δ' I' H' a2 y2 g2 => q b δ' I' H' a2 y2 (g.trans g2 y.sub))
/-- as values: True and False alone -/
theorem de_one {op} {a : Expr} (h : de G a δ Φ) : de G (.BoolOp op [a] pos) δ Φ := fun σ I H x f Q q => (pe_one PE.of).to (h σ I H x f Q q)
theorem de_and {a b : Expr} {rest : List Expr} (h : de G a δ fun r δ1 => ∃ k, r = .val (.bl k) ∧ if k = true then de G (.BoolOp .And (b :: rest) pos) δ1 Φ else Φ (.val (.bl false)) δ1) : de G (.BoolOp .And (a :: b :: rest) pos) δ Φ := fun σ I H x f Q q =>
  (pe_and PE.of PE.of).to (h σ I H x f _ fun r δ1 v I1 H1 ⟨k, hr, a1⟩ y g => by
    subst hr
    obtain ⟨u, h1, h2⟩ := y.head_val
    cases h1
    cases (show _ = _ from h2)
    have g' := g.sub fun a h => own_cons_val.mpr h
    refine ⟨k, rfl, ?_⟩
    cases k with
    | true =>
      rw [if_pos rfl] at a1 ⊢
      exact a1 σ I1 H1 y.tail (f.go g' y.sub) Q fun r δ' v' I' H' a2 y2 g2 => q r δ' v' I' H' a2 y2 (g'.trans g2 y.sub)
    | false =>
      rw [if_neg Bool.false_ne_true] at a1 ⊢
      exact q _ δ1 _ I1 H1 a1 (y.tail.cons_val rfl) (g'.sub fun a h => own_cons_val.mp h))
theorem de_or {a b : Expr} {rest : List Expr} (h : de G a δ fun r δ1 => ∃ k, r = .val (.bl k) ∧ if k = true then Φ (.val (.bl true)) δ1 else de G (.BoolOp .Or (b :: rest) pos) δ1 Φ) : de G (.BoolOp .Or (a :: b :: rest) pos) δ Φ := fun σ I H x f Q q =>
  (pe_or PE.of PE.of).to (h σ I H x f _ fun r δ1 v I1 H1 ⟨k, hr, a1⟩ y g => by
    subst hr
    obtain ⟨u, h1, h2⟩ := y.head_val
    cases h1
    cases (show _ = _ from h2)
    have g' := g.sub fun a h => own_cons_val.mpr h
    refine ⟨k, rfl, ?_⟩
    cases k with
    | true =>
      rw [if_pos rfl] at a1 ⊢
      exact q _ δ1 _ I1 H1 a1 (y.tail.cons_val rfl) (g'.sub fun a h => own_cons_val.mp h)
    | false =>
      rw [if_neg Bool.false_ne_true] at a1 ⊢
      exact a1 σ I1 H1 y.tail (f.go g' y.sub) Q fun r δ' v' I' H' a2 y2 g2 => q r δ' v' I' H' a2 y2 (g'.trans g2 y.sub))
theorem de_not {a : Expr} (h : dgs G [a] δ fun as δ1 => ∃ d k b, ArgsD δ1 as [d] b ∧ TruD d k ∧ Φ (.val (.bl (!k))) δ1) : de G (.UnaryOp .Not a pos) δ Φ := fun σ I H x f Q q =>
  (pe_notT PE.of).to (we_mono (h σ I H x f (fun vs H1 => ∃ v k, vs = [v] ∧ TruV G.X.K v H1 k ∧ Q (.bl (!k)) H1) fun as δ1 vs I1 H1 ⟨d, k, b, hd, ht, hΦ⟩ y ar g => by
    obtain ⟨I2, bo, rp, hb⟩ := borrow y ar hd
    obtain ⟨v, r, rfl, h1, h2⟩ := rp
    cases (show _ = _ from h2)
    exact ⟨v, k, rfl, ht.to bo.sub h1, q _ δ1 _ I1 H1 hΦ (y.cons_val rfl) (g.sub fun a h => own_cons_val.mp h)⟩) fun v H1 ⟨u, k, e, t, q'⟩ => by
      cases e
      exact ⟨k, t, q'⟩)
theorem de_ifexp {c a b : Expr} (h : dt G c δ fun k δ1 => if k = true then de G a δ1 Φ else de G b δ1 Φ) : de G (.IfExp c a b pos) δ Φ := fun σ I H x f Q q =>
  (pe_ifExp PT.of PE.of PE.of).to (h σ I H x f _ fun k δ1 I1 H1 a1 y g => by
    cases k with
    | true =>
      rw [if_pos rfl] at a1 ⊢
      exact a1 σ I1 H1 y (f.go g y.sub) Q fun r δ' v' I' H' a2 y2 g2 => q r δ' v' I' H' a2 y2 (g.trans g2 y.sub)
    | false =>
      rw [if_neg Bool.false_ne_true] at a1 ⊢
      exact a1 σ I1 H1 y (f.go g y.sub) Q fun r δ' v' I' H' a2 y2 g2 => q r δ' v' I' H' a2 y2 (g.trans g2 y.sub))
theorem chain_reads {op op' : CmpOp} {a b c : Expr} (h : dgs G [a, b] δ fun as δ1 => ∃ x y, as = [.v x, .v y] ∧ DR G.X.K (R2l (wop G.X (compareOp op))) [x, y] fun r => ∃ k, r = .val (.bl k) ∧
      if k = true then dgs G [c] δ1 fun as δ2 => ∃ z, as = [.v z] ∧ DR G.X.K (R2l (wop G.X (compareOp op'))) [y, z] fun r => Φ r δ2 else Φ (.val (.bl false)) δ1)
    {σ : L2.St} {I H : Hp} (x : EnvR G.X.K I H σ δ) (f : XFut G δ I H) (Q : VK) (q : ∀ r δ' v I' H', Φ r δ' → EnvR G.X.K I' H' (some v :: σ) (r :: δ') → Goes (Own δ) (Own (r :: δ')) I H I' H' → Q v H') :
    tChain (wop G.X (compareOp op)) (wop G.X (compareOp op')) (we G.X a) (we G.X b) (we G.X c) σ H Q := by
  refine we_mono (h σ I H x f (fun vs H1 => ∃ v w, vs = [v, w] ∧ wop G.X (compareOp op) v w H1 fun z H2 => ∃ k, z = .bl k ∧ if k = true then we G.X c σ H2 fun u H3 => wop G.X (compareOp op') w u H3 Q else Q (.bl false) H2) ?_) ?_
  · intro as δ1 vs I1 H1 ⟨d, e, hd, hr⟩ y ar g
    subst hd
    obtain ⟨v, r, rfl, h1, ar⟩ := ar
    obtain ⟨w, r, rfl, h2, ar⟩ := ar
    cases (show _ = _ from ar)
    refine ⟨v, w, rfl, ?_⟩
    have h1 : Rep G.X.K I1 d v := h1
    have h2 : Rep G.X.K I1 e w := h2
    obtain ⟨_, _, e1, e2⟩ := hr I1 H1 [v, w] y.sub (Reps.cons h1 (Reps.cons h2 Reps.nil)) (fun z H2 => ∃ k, z = .bl k ∧ if k = true then we G.X c σ H2 fun u H3 => wop G.X (compareOp op') w u H3 Q else Q (.bl false) H2) (by
      intro r v' I2 H2 ⟨k, hk, a1⟩ re
      subst hk
      cases (show _ = _ from re.rel)
      have y2 := y.grow re.le re.sub re.hh re.nw
      have g2 : Goes (Own δ1) (Own δ1) I1 H1 I2 H2 := Goes.grow re.le re.hh re.nw
      refine ⟨k, rfl, ?_⟩
      cases k with
      | false =>
        rw [if_neg Bool.false_ne_true] at a1 ⊢
        exact q _ δ1 _ I2 H2 a1 (y2.cons_val rfl) ((g.trans g2 y.sub).sub fun a h => own_cons_val.mp h)
      | true =>
        rw [if_pos rfl] at a1 ⊢
        refine we_mono (a1 σ I2 H2 y2 (f.go (g.trans g2 y.sub) y2.sub) (fun vs H3 => ∃ u, vs = [u] ∧ wop G.X (compareOp op') w u H3 Q) ?_) ?_
        · intro as δ3 vs I3 H3 ⟨z, hz, hr3⟩ y3 ar3 g3
          subst hz
          obtain ⟨u, r, rfl, h3, ar3⟩ := ar3
          cases (show _ = _ from ar3)
          have h3 : Rep G.X.K I3 z u := h3
          refine ⟨u, rfl, ?_⟩
          obtain ⟨_, _, e1, e2⟩ := hr3 I3 H3 [w, u] y3.sub (Reps.cons (Rep.mono (re.le.trans g3.le) _ _ h2) (Reps.cons h3 Reps.nil)) Q (fun r v4 I4 H4 a4 re4 => by
            obtain ⟨I5, z5, g5⟩ := unlent (b := false) y3 (Bor.refl y3.sub) (fun _ => rfl) (fun e => by cases e) re4
            exact q r δ3 v4 I5 H4 a4 z5 ((g.trans g2 y.sub).trans (g3.trans g5 y3.sub) y2.sub))
          cases e1
          exact e2
        · intro v' H3 ⟨u, e, h⟩
          cases e
          exact h)
    cases e1
    exact e2
  · intro v H1 h1
    refine we_mono h1 fun w H2 ⟨v', w', e, h⟩ => ?_
    cases e
    exact h
/-- a < b < c -/
theorem de_chain {op op' : CmpOp} {a b c : Expr} (h : dgs G [a, b] δ fun as δ1 => ∃ x y, as = [.v x, .v y] ∧ DR G.X.K (R2l (wop G.X (compareOp op))) [x, y] fun r => ∃ k, r = .val (.bl k) ∧
      if k = true then dgs G [c] δ1 fun as δ2 => ∃ z, as = [.v z] ∧ DR G.X.K (R2l (wop G.X (compareOp op'))) [y, z] fun r => Φ r δ2 else Φ (.val (.bl false)) δ1)
    (hm : lastMarks [op, op'] [b, c] = false := by with_unfolding_all rfl) : de G (.Compare a [op, op'] [b, c] pos) δ Φ := fun σ I H x f Q q => (pe_chain OpR.of OpR.of PE.of PE.of PE.of hm).to (chain_reads h x f Q q)
theorem dt_chain {op op' : CmpOp} {a b c : Expr} {Φ : Bool → Env → Prop} (h : dgs G [a, b] δ fun as δ1 => ∃ x y, as = [.v x, .v y] ∧ DR G.X.K (R2l (wop G.X (compareOp op))) [x, y] fun r => ∃ k, r = .val (.bl k) ∧
      if k = true then dgs G [c] δ1 fun as δ2 => ∃ z, as = [.v z] ∧ DR G.X.K (R2l (wop G.X (compareOp op'))) [y, z] fun r => (∃ k, r = .val (.bl k) ∧ Φ k δ2) else (∃ k, DV.val (.bl false) = .val (.bl k) ∧ Φ k δ1))
    (hm : lastMarks [op, op'] [b, c] = false := by with_unfolding_all rfl) : dt G (.Compare a [op, op'] [b, c] pos) δ Φ := fun σ I H x f Q q => (pt_chain OpR.of OpR.of PE.of PE.of PE.of hm).to (chain_reads (Φ := fun r δ1 => ∃ k, r = .val (.bl k) ∧ Φ k δ1) h x f (fun v H1 => ∃ k, v = .bl k ∧ Q k H1) fun r δ' v I' H' ⟨k, hk, a1⟩ y g => by
  subst hk
  obtain ⟨u, h1, h2⟩ := y.head_val
  cases h1
  cases (show _ = _ from h2)
  exact ⟨k, rfl, q k δ' I' H' a1 y.tail (g.sub fun a h => own_cons_val.mpr h)⟩)
/-! ### displays, items -/
theorem wes_pa {X : Cx} : ∀ {es : List Expr}, PA X es (wes X es) → True := fun _ => trivial
def Rtup : List V → Hp → VK → Prop := fun vs H Q => vs.length ≤ sizeLine ∧ ∀ p, H p = none → Q (.ref p) (upd H p (.tup vs))
def Rlst : List V → Hp → VK → Prop := fun vs H Q => vs.length ≤ sizeLine ∧ ∀ p, H p = none → Q (.ref p) (upd H p (.lst vs))
theorem dr_tup {K : PySem.W.Frag} {ds : List D} {Ψ : DV → Prop} (hl : ds.length ≤ sizeLine) (h : Ψ (.val (.tup ds))) : DR K Rtup ds Ψ := fun I H vs s rp Q q =>
  ⟨by rw [rp.length]; exact hl, fun p hp => q _ _ _ _ h (Res.fast s hp ⟨p, vs, rfl, .inl upd_same, Reps.mono (Le.new (by
    cases e : I p with
    | none => rfl
    | some u => rw [s _ _ e] at hp; cases hp)) _ _ rp⟩)⟩
theorem dr_lst {K : PySem.W.Frag} {ds : List D} {Ψ : DV → Prop} (hl : ds.length ≤ sizeLine) (h : ∀ p, Ψ (.own p (.lst ds))) : DR K Rlst ds Ψ := fun I H vs s rp Q q =>
  ⟨by rw [rp.length]; exact hl, fun p hp => q _ _ _ _ (h p) (Res.own s hp ⟨vs, upd_same, rp⟩)⟩
theorem de_tuple {es : List Expr} {k} (hp : PA G.X es (wes G.X es)) (h : dgs G es δ (Asked G Rtup Φ)) : de G (.Tuple es k pos) δ Φ := de_R (fun σ H Q h => (pe_tup hp).to h) h
theorem de_list {es : List Expr} (hp : PA G.X es (wes G.X es)) (h : dgs G es δ (Asked G Rlst Φ)) : de G (.List es pos) δ Φ := de_R (fun σ H Q h => (pe_lst hp).to h) h
/-- o[i]: by an index rule -/
def wix (X : Cx) : R2 := fun x y H Q => ∀ (value slice : Expr) pins s σ v u, Inv X pins σ H s → RelV x v → RelV y u → subscripted slice false v u = operate [v, u] (getItem v u) → wpAny (model X.prog X.w) X.A (subscriptTail value slice v u) (EP X pins σ Q) X.xe s
theorem _root_.L2.IxR.of {X : Cx} : IxR X (wix X) := fun value slice pins s σ H x y v u Q I rx ry h e => h value slice pins s σ v u I rx ry e
theorem _root_.L2.IxR.to {X : Cx} {r : R2} {x y : V} {H : Hp} {Q : VK} (p : IxR X r) (h : r x y H Q) : wix X x y H Q := fun value slice pins s σ v u I rx ry e => p value slice pins s σ H x y v u Q I rx ry h e
theorem de_ix {a b : Expr} (h : dgs G [a, b] δ (Asked G (R2l (wix G.X)) Φ)) (hs : PlainIx b := by exact fun _ _ => rfl) : de G (.Subscript a b pos) δ Φ :=
  de_R (fun σ H Q h => (pe_ix IxR.of PE.of PE.of hs).to (wes2 h)) h
end

/-! ### what operations give on data -/
theorem reps1 {K : PySem.W.Frag} {I : Hp} {d : D} {vs : List V} (h : Reps K I [d] vs) : ∃ v, vs = [v] ∧ Rep K I d v := by
  obtain ⟨v, r, rfl, h1, h2⟩ := h
  cases (show _ = _ from h2)
  exact ⟨v, rfl, h1⟩
theorem reps2 {K : PySem.W.Frag} {I : Hp} {d e : D} {vs : List V} (h : Reps K I [d, e] vs) : ∃ v w, vs = [v, w] ∧ Rep K I d v ∧ Rep K I e w := by
  obtain ⟨v, r, rfl, h1, h2⟩ := h
  obtain ⟨w, rfl, h3⟩ := reps1 h2
  exact ⟨v, w, rfl, h1, h3⟩
section
variable {X : Cx} {Ψ : DV → Prop}
theorem dr_R2 {r : R2} {x y : D} (h : ∀ I H v w, Le I H → Rep X.K I x v → Rep X.K I y w → ∀ Q : VK, (∀ r v I' H', Ψ r → Res X.K I H I' H' r v → Q v H') → r v w H Q) : DR X.K (R2l r) [x, y] Ψ := fun I H vs s rp Q q => by
  obtain ⟨v, w, rfl, h1, h2⟩ := reps2 rp
  exact ⟨v, w, rfl, h I H v w s h1 h2 Q q⟩
theorem dr_R1 {r : V → Hp → VK → Prop} {x : D} (h : ∀ I H v, Le I H → Rep X.K I x v → ∀ Q : VK, (∀ r v I' H', Ψ r → Res X.K I H I' H' r v → Q v H') → r v H Q) : DR X.K (R1l r) [x] Ψ := fun I H vs s rp Q q => by
  obtain ⟨v, rfl, h1⟩ := reps1 rp
  exact ⟨v, rfl, h I H v s h1 Q q⟩
theorem dr_II {f : Value → Value → Sem Value} {C : Int → Int → Prop} {g : Int → Int → Int} {i j : Int} (ho : OpR X f (rI C fun i j => .int (g i j))) (hc : C i j) (h : Ψ (.val (.int (g i j)))) : DR X.K (R2l (wop X f)) [.int i, .int j] Ψ :=
  dr_R2 fun I H v w s h1 h2 Q q => by
    cases (show _ = _ from h1)
    cases (show _ = _ from h2)
    exact ho.to ⟨i, j, rfl, rfl, hc, q _ _ I H h (Res.val s rfl)⟩
theorem dr_II0 {f : Value → Value → Sem Value} {g : Int → Int → Int} {i j : Int} (ho : OpR X f (rI0 fun i j => .int (g i j))) (h : Ψ (.val (.int (g i j)))) : DR X.K (R2l (wop X f)) [.int i, .int j] Ψ :=
  dr_R2 fun I H v w s h1 h2 Q q => by
    cases (show _ = _ from h1)
    cases (show _ = _ from h2)
    exact ho.to ⟨i, j, rfl, rfl, q _ _ I H h (Res.val s rfl)⟩
theorem dr_IB0 {f : Value → Value → Sem Value} {g : Int → Int → Bool} {i j : Int} (ho : OpR X f (rI0 fun i j => .bl (g i j))) (h : Ψ (.val (.bl (g i j)))) : DR X.K (R2l (wop X f)) [.int i, .int j] Ψ :=
  dr_R2 fun I H v w s h1 h2 Q q => by
    cases (show _ = _ from h1)
    cases (show _ = _ from h2)
    exact ho.to ⟨i, j, rfl, rfl, q _ _ I H h (Res.val s rfl)⟩
variable {i j : Int}
theorem dr_add (h : Ψ (.val (.int (i + j)))) : DR X.K (R2l (wop X (binaryOp .Add))) [.int i, .int j] Ψ := dr_II0 op_add h
theorem dr_sub (h : Ψ (.val (.int (i - j)))) : DR X.K (R2l (wop X (binaryOp .Sub))) [.int i, .int j] Ψ := dr_II0 op_sub h
theorem dr_mul (hc : CMulX i j) (h : Ψ (.val (.int (i * j)))) : DR X.K (R2l (wop X (binaryOp .Mult))) [.int i, .int j] Ψ := dr_II op_mulX hc h
theorem dr_mul64 (hc : CMul i j) (h : Ψ (.val (.int (i * j)))) : DR X.K (R2l (wop X (binaryOp .Mult))) [.int i, .int j] Ψ := dr_II op_mul hc h
theorem dr_fdiv (hc : 0 < j ∧ j < 1073741824) (h : Ψ (.val (.int (i / j)))) : DR X.K (R2l (wop X (binaryOp .FloorDiv))) [.int i, .int j] Ψ := dr_II op_fdiv hc h
theorem dr_fdivW (hc : CDivW i j) (h : Ψ (.val (.int (i / j)))) : DR X.K (R2l (wop X (binaryOp .FloorDiv))) [.int i, .int j] Ψ := dr_II op_fdivW hc h
theorem dr_mod (hc : 0 < j) (h : Ψ (.val (.int (i % j)))) : DR X.K (R2l (wop X (binaryOp .Mod))) [.int i, .int j] Ψ := dr_II (C := fun _ j => 0 < j) op_mod hc h
theorem dr_pow (hc : CPow i j) (h : Ψ (.val (.int (i ^ j.toNat)))) : DR X.K (R2l (wop X (binaryOp .Pow))) [.int i, .int j] Ψ := dr_II op_pow hc h
theorem dr_shl (hc : CPow i j) (h : Ψ (.val (.int (i * 2 ^ j.toNat)))) : DR X.K (R2l (wop X (binaryOp .LShift))) [.int i, .int j] Ψ := dr_II op_shl hc h
theorem dr_shr (hc : 0 ≤ j) (h : Ψ (.val (.int (i / 2 ^ j.toNat)))) : DR X.K (R2l (wop X (binaryOp .RShift))) [.int i, .int j] Ψ := dr_II (C := fun _ j => 0 ≤ j) op_shr hc h
theorem dr_bitand (h : Ψ (.val (.int (Builtin.bitAnd i j)))) : DR X.K (R2l (wop X (binaryOp .BitAnd))) [.int i, .int j] Ψ := dr_II0 op_and h
theorem dr_lt (h : Ψ (.val (.bl (decide (i < j))))) : DR X.K (R2l (wop X (compareOp .Lt))) [.int i, .int j] Ψ := dr_IB0 op_lt h
theorem dr_le (h : Ψ (.val (.bl (decide (i ≤ j))))) : DR X.K (R2l (wop X (compareOp .LtE))) [.int i, .int j] Ψ := dr_IB0 op_le h
theorem dr_gt (h : Ψ (.val (.bl (decide (j < i))))) : DR X.K (R2l (wop X (compareOp .Gt))) [.int i, .int j] Ψ := dr_IB0 op_gt h
theorem dr_ge (h : Ψ (.val (.bl (decide (j ≤ i))))) : DR X.K (R2l (wop X (compareOp .GtE))) [.int i, .int j] Ψ := dr_IB0 op_ge h
/-- the values that stand for themselves -/
def vOf : D → Option V
  | .non => some .non
  | .bl b => some (.bl b)
  | .int i => some (.int i)
  | .str s => some (.str s)
  | _ => none
theorem vOf_rep {K : PySem.W.Frag} {I : Hp} {d : D} {u v : V} (h : vOf d = some u) (r : Rep K I d v) : v = u := by
  cases d <;> simp [vOf] at h <;> cases h <;> exact r
theorem dr_eqS {x y : D} {u w : V} (h1 : vOf x = some u) (h2 : vOf y = some w) (hs : scal u w = true) (h : Ψ (.val (.bl (decide (u = w))))) : DR X.K (R2l (wop X (compareOp .Eq))) [x, y] Ψ := dr_R2 fun I H v w' s r1 r2 Q q => by
  rw [vOf_rep h1 r1, vOf_rep h2 r2]
  exact op_eq.to ⟨hs, q _ _ I H h (Res.val s rfl)⟩
theorem dr_neS {x y : D} {u w : V} (h1 : vOf x = some u) (h2 : vOf y = some w) (hs : scal u w = true) (h : Ψ (.val (.bl (!decide (u = w))))) : DR X.K (R2l (wop X (compareOp .NotEq))) [x, y] Ψ := dr_R2 fun I H v w' s r1 r2 Q q => by
  rw [vOf_rep h1 r1, vOf_rep h2 r2]
  exact op_ne.to ⟨hs, q _ _ I H h (Res.val s rfl)⟩
theorem dr_eq (h : Ψ (.val (.bl (decide (i = j))))) : DR X.K (R2l (wop X (compareOp .Eq))) [.int i, .int j] Ψ := dr_eqS rfl rfl rfl (by
  have e : decide (V.int i = V.int j) = decide (i = j) := by
    by_cases h : i = j
    · subst h; simp
    · rw [decide_eq_false h, decide_eq_false (fun e => h (V.int.inj e))]
  rw [e]; exact h)
theorem dr_ne (h : Ψ (.val (.bl (!decide (i = j))))) : DR X.K (R2l (wop X (compareOp .NotEq))) [.int i, .int j] Ψ := dr_neS rfl rfl rfl (by
  have e : decide (V.int i = V.int j) = decide (i = j) := by
    by_cases h : i = j
    · subst h; simp
    · rw [decide_eq_false h, decide_eq_false (fun e => h (V.int.inj e))]
  rw [e]; exact h)
theorem dr_eqstr {s t : Str} (h : Ψ (.val (.bl (decide (s = t))))) : DR X.K (R2l (wop X (compareOp .Eq))) [.str s, .str t] Ψ := dr_eqS rfl rfl rfl (by
  have e : decide (V.str s = V.str t) = decide (s = t) := by
    by_cases h : s = t
    · subst h; simp
    · rw [decide_eq_false h, decide_eq_false (fun e => h (V.str.inj e))]
  rw [e]; exact h)
theorem dr_nestr {s t : Str} (h : Ψ (.val (.bl (!decide (s = t))))) : DR X.K (R2l (wop X (compareOp .NotEq))) [.str s, .str t] Ψ := dr_neS rfl rfl rfl (by
  have e : decide (V.str s = V.str t) = decide (s = t) := by
    by_cases h : s = t
    · subst h; simp
    · rw [decide_eq_false h, decide_eq_false (fun e => h (V.str.inj e))]
  rw [e]; exact h)
/-- is None, is not None -/
def isNon : D → Bool
  | .non => true
  | _ => false
/-- not a raw value -/
def clear : D → Bool
  | .raw _ => false
  | _ => true
theorem isNon_rep {K : PySem.W.Frag} {I : Hp} {d : D} {v : V} (hc : clear d = true) (r : Rep K I d v) : decide (v = .non) = isNon d := by
  cases d with
  | non => cases (show _ = _ from r); rfl
  | bl => cases (show _ = _ from r); rfl
  | int => cases (show _ = _ from r); rfl
  | str => cases (show _ = _ from r); rfl
  | raw => cases hc
  | lst => obtain ⟨a, xs, rfl, _⟩ := r; rfl
  | klst => obtain ⟨a, xs, rfl, _⟩ := r; rfl
  | tup => obtain ⟨a, xs, rfl, _⟩ := r; rfl
  | dic => obtain ⟨a, xs, rfl, _⟩ := r; rfl
  | obj => obtain ⟨a, dx, xs, rfl, _⟩ := r; rfl
  | xex => obtain ⟨fs, rfl, _⟩ := r; rfl
theorem dr_isN {x : D} (hc : clear x = true) (h : Ψ (.val (.bl (isNon x)))) : DR X.K (R2l (wop X (compareOp .Is))) [x, .non] Ψ := dr_R2 fun I H v w s r1 r2 Q q => by
  cases (show _ = _ from r2)
  refine op_isN.to ⟨rfl, ?_⟩
  rw [isNon_rep hc r1]
  exact q _ _ I H h (Res.val s rfl)
theorem dr_notN {x : D} (hc : clear x = true) (h : Ψ (.val (.bl (!isNon x)))) : DR X.K (R2l (wop X (compareOp .IsNot))) [x, .non] Ψ := dr_R2 fun I H v w s r1 r2 Q q => by
  cases (show _ = _ from r2)
  refine op_notN.to ⟨rfl, ?_⟩
  rw [isNon_rep hc r1]
  exact q _ _ I H h (Res.val s rfl)
/-- texts -/
theorem dr_addstr {s t : Str} (hl : s.length + t.length ≤ sizeLine) (h : Ψ (.val (.str (s ++ t)))) : DR X.K (R2l (wop X (binaryOp .Add))) [.str s, .str t] Ψ := dr_R2 fun I H v w sb r1 r2 Q q => by
  cases (show _ = _ from r1)
  cases (show _ = _ from r2)
  exact op_add_str.to ⟨s, t, rfl, rfl, hl, q _ _ I H h (Res.val sb rfl)⟩
/-- lists, tuples joined -/
theorem dr_cat {as bs : List D} (hl : as.length + bs.length ≤ sizeLine) (h : ∀ p, Ψ (.own p (.lst (as ++ bs)))) : DR X.K (R2l (wop X (binaryOp .Add))) [.lst as, .lst bs] Ψ := dr_R2 fun I H v w s r1 r2 Q q => by
  obtain ⟨a, xs, rfl, h1, h2⟩ := r1
  obtain ⟨b, ys, rfl, h3, h4⟩ := r2
  exact op_cat.to ⟨a, b, xs, ys, rfl, rfl, s _ _ h1, s _ _ h3, by rw [h2.length, h4.length]; exact hl, fun p hp => q _ _ _ _ (h p) (Res.own s hp ⟨_, upd_same, h2.append h4⟩)⟩
theorem Reps.flat {K : PySem.W.Frag} {I : Hp} {ds : List D} {vs : List V} (h : Reps K I ds vs) : ∀ n : Nat, Reps K I (List.replicate n ds).flatten (List.replicate n vs).flatten
  | 0 => rfl
  | n + 1 => by
    rw [List.replicate_succ, List.replicate_succ, List.flatten_cons, List.flatten_cons]
    exact h.append (Reps.flat h n)
theorem dr_rep {as : List D} {k : Int} (h1 : -(2 ^ 63) ≤ k) (h2 : k < 2 ^ 63) (hl : as.length * k.toNat ≤ sizeLine) (h : ∀ p, Ψ (.own p (.lst (List.replicate k.toNat as).flatten))) : DR X.K (R2l (wop X (binaryOp .Mult))) [.lst as, .int k] Ψ := dr_R2 fun I H v w s r1 r2 Q q => by
  obtain ⟨a, xs, rfl, g1, g2⟩ := r1
  cases (show _ = _ from r2)
  exact op_rep.to ⟨a, k, xs, rfl, rfl, s _ _ g1, h1, h2, by rw [g2.length]; exact hl, fun p hp => q _ _ _ _ (h p) (Res.own s hp ⟨_, upd_same, g2.flat _⟩)⟩
theorem le_none {I H : Hp} {p : Addr} (s : Le I H) (hp : H p = none) : I p = none := by
  cases e : I p with
  | none => rfl
  | some u => rw [s _ _ e] at hp; cases hp
theorem dr_catT {as bs : List D} (hl : as.length + bs.length ≤ sizeLine) (h : Ψ (.val (.tup (as ++ bs)))) : DR X.K (R2l (wop X (binaryOp .Add))) [.tup as, .tup bs] Ψ := dr_R2 fun I H v w s r1 r2 Q q => by
  obtain ⟨a, xs, rfl, h1, h2⟩ := r1
  obtain ⟨b, ys, rfl, h3, h4⟩ := r2
  refine op_catA.to ⟨a, b, xs, ys, rfl, rfl, (s.sqU h1).t, (s.sqU h3).t, by rw [h2.length, h4.length]; exact hl, fun e => ?_, fun _ e => ?_, fun _ _ p hp => ?_⟩
  · refine q _ _ I H h (Res.val s ⟨b, ys, rfl, h3, ?_⟩)
    have := h2.append h4
    rw [e] at this
    exact this
  · refine q _ _ I H h (Res.val s ⟨a, xs, rfl, h1, ?_⟩)
    have := h2.append h4
    rw [e, List.append_nil] at this
    exact this
  · exact q _ _ _ _ h (Res.fast s hp ⟨p, _, rfl, .inl upd_same, Reps.mono (Le.new (le_none s hp)) _ _ (h2.append h4)⟩)
/-! items -/
theorem dr_ixL {as : List D} {i : Int} {d : D} (hi : atI as i = some d) (h : Ψ (.val d)) : DR X.K (R2l (wix X)) [.lst as, .int i] Ψ := dr_R2 fun I H v w s r1 r2 Q q => by
  obtain ⟨a, xs, rfl, g1, g2⟩ := r1
  cases (show _ = _ from r2)
  unfold atI at hi
  cases e : ixN as.length i with
  | none => rw [e] at hi; cases hi
  | some k =>
    rw [e] at hi
    obtain ⟨v, e1, e2⟩ := g2.get (i := k) hi
    refine ix_list.to ⟨a, xs, i, v, rfl, rfl, SqL.of (s _ _ g1), ?_, q _ _ I H h (Res.val s e2)⟩
    unfold atI
    rw [g2.length, e]
    exact e1
theorem dr_ixT {as : List D} {i : Int} {d : D} (hi : atI as i = some d) (h : Ψ (.val d)) : DR X.K (R2l (wix X)) [.tup as, .int i] Ψ := dr_R2 fun I H v w s r1 r2 Q q => by
  obtain ⟨a, xs, rfl, g1, g2⟩ := r1
  cases (show _ = _ from r2)
  unfold atI at hi
  cases e : ixN as.length i with
  | none => rw [e] at hi; cases hi
  | some k =>
    rw [e] at hi
    obtain ⟨v, e1, e2⟩ := g2.get (i := k) hi
    refine ix_tup.to ⟨a, xs, i, v, rfl, rfl, (s.sqU g1).t, ?_, q _ _ I H h (Res.val s e2)⟩
    unfold atI
    rw [g2.length, e]
    exact e1
theorem dr_ixS {z : Str} {i : Int} {c : Nat} (hl : z.length ≤ sizeLine) (hi : atI z.cps.toList i = some c) (h : Ψ (.val (.str ⟨#[c]⟩))) : DR X.K (R2l (wix X)) [.str z, .int i] Ψ := dr_R2 fun I H v w s r1 r2 Q q => by
  cases (show _ = _ from r1)
  cases (show _ = _ from r2)
  exact ix_str.to ⟨z, i, c, rfl, rfl, hl, hi, q _ _ I H h (Res.val s rfl)⟩
theorem dr_neg (h : Ψ (.val (.int (-i)))) : DR X.K (R1l (wun X (unaryOp .USub))) [.int i] Ψ := dr_R1 fun I H v s r1 Q q => by
  cases (show _ = _ from r1)
  exact un_neg.to ⟨i, rfl, q _ _ I H h (Res.val s rfl)⟩
/-- what is in a list or tuple of flat things -/
theorem flats {K : PySem.W.Frag} {I : Hp} : ∀ {ds : List D} {us vs : List V}, ds.mapM vOf = some us → Reps K I ds vs → vs = us
  | [], us, vs, h, r => by
    simp at h; subst h
    exact r
  | d :: ds, us, vs, h, r => by
    obtain ⟨v, r', rfl, h1, h2⟩ := r
    rw [List.mapM_cons] at h
    cases e1 : vOf d with
    | none => rw [e1] at h; simp at h
    | some u =>
      rw [e1] at h
      cases e2 : ds.mapM vOf with
      | none => rw [e2] at h; simp at h
      | some us' =>
        rw [e2] at h
        simp at h; subst h
        rw [vOf_rep e1 h1, flats e2 h2]
theorem flats_flat : ∀ {ds : List D} {us : List V}, ds.mapM vOf = some us → us.all L2.flatV = true
  | [], us, h => by
    simp at h; subst h; rfl
  | d :: ds, us, h => by
    rw [List.mapM_cons] at h
    cases e1 : vOf d with
    | none => rw [e1] at h; simp at h
    | some u =>
      rw [e1] at h
      cases e2 : ds.mapM vOf with
      | none => rw [e2] at h; simp at h
      | some us' =>
        rw [e2] at h
        simp at h; subst h
        rw [List.all_cons, flats_flat e2]
        cases d <;> simp [vOf] at e1 <;> subst e1 <;> rfl
theorem vOf_flat {d : D} {u : V} (h : vOf d = some u) : L2.flatV u = true := by
  cases d <;> simp [vOf] at h <;> subst h <;> rfl
theorem dr_in {x : D} {as : List D} {u : V} {us : List V} (h1 : vOf x = some u) (h2 : as.mapM vOf = some us) {y : D} (hy : y = .lst as ∨ y = .tup as) (h : Ψ (.val (.bl (inV u us)))) : DR X.K (R2l (wop X (compareOp .In))) [x, y] Ψ := dr_R2 fun I H v w s r1 r2 Q q => by
  rw [vOf_rep h1 r1]
  rcases hy with rfl | rfl
  · obtain ⟨a, xs, rfl, g1, g2⟩ := r2
    rw [flats h2 g2] at g1
    exact op_in_seq.to ⟨a, us, rfl, .inl (SqL.of (s _ _ g1)), vOf_flat h1, flats_flat h2, q _ _ I H h (Res.val s rfl)⟩
  · obtain ⟨a, xs, rfl, g1, g2⟩ := r2
    rw [flats h2 g2] at g1
    exact op_in_seq.to ⟨a, us, rfl, .inr ((s.sqU g1).t), vOf_flat h1, flats_flat h2, q _ _ I H h (Res.val s rfl)⟩
theorem dr_notin {x : D} {as : List D} {u : V} {us : List V} (h1 : vOf x = some u) (h2 : as.mapM vOf = some us) {y : D} (hy : y = .lst as ∨ y = .tup as) (h : Ψ (.val (.bl (!inV u us)))) : DR X.K (R2l (wop X (compareOp .NotIn))) [x, y] Ψ := dr_R2 fun I H v w s r1 r2 Q q => by
  rw [vOf_rep h1 r1]
  rcases hy with rfl | rfl
  · obtain ⟨a, xs, rfl, g1, g2⟩ := r2
    rw [flats h2 g2] at g1
    exact op_notIn_seq.to ⟨a, us, rfl, .inl (SqL.of (s _ _ g1)), vOf_flat h1, flats_flat h2, q _ _ I H h (Res.val s rfl)⟩
  · obtain ⟨a, xs, rfl, g1, g2⟩ := r2
    rw [flats h2 g2] at g1
    exact op_notIn_seq.to ⟨a, us, rfl, .inr ((s.sqU g1).t), vOf_flat h1, flats_flat h2, q _ _ I H h (Res.val s rfl)⟩
/-! == of data at any depth -/
mutual
def toPy : D → Option PyData
  | .non => some .none
  | .bl b => some (.bool b)
  | .int i => some (.int i)
  | .str s => some (.str s)
  | .lst ds => (toPys ds).map .list
  | .tup ds => (toPys ds).map .tuple
  | _ => none
def toPys : List D → Option (List PyData)
  | [] => some []
  | d :: ds => (toPy d).bind fun p => (toPys ds).map fun ps => p :: ps
end
mutual
theorem toPy_dp {K : PySem.W.Frag} {I H : Hp} (s : Le I H) : ∀ (d : D) (v : V) (p : PyData), toPy d = some p → Rep K I d v → Dp K H v p
  | .non, _, _, h, r => by simp [toPy] at h; subst h; cases (show _ = _ from r); exact .non
  | .bl b, _, _, h, r => by simp [toPy] at h; subst h; cases (show _ = _ from r); exact .bl b
  | .int i, _, _, h, r => by simp [toPy] at h; subst h; cases (show _ = _ from r); exact .int i
  | .str i, _, _, h, r => by simp [toPy] at h; subst h; cases (show _ = _ from r); exact .str i
  | .raw _, _, _, h, r => by simp [toPy] at h
  | .klst _, _, _, h, r => by simp [toPy] at h
  | .dic _ _, _, _, h, r => by simp [toPy] at h
  | .obj _ _ _, _, _, h, r => by simp [toPy] at h
  | .xex _ _ _ _, _, _, h, r => by simp [toPy] at h
  | .lst ds, _, _, h, r => by
    simp [toPy] at h
    obtain ⟨ps, h1, rfl⟩ := h
    obtain ⟨a, xs, rfl, g1, g2⟩ := r
    exact .lst (SqL.of (s _ _ g1)) (toPys_dp s ds xs ps h1 g2)
  | .tup ds, _, _, h, r => by
    simp [toPy] at h
    obtain ⟨ps, h1, rfl⟩ := h
    obtain ⟨a, xs, rfl, g1, g2⟩ := r
    exact .tup ((s.sqU g1).t) (toPys_dp s ds xs ps h1 g2)
theorem toPys_dp {K : PySem.W.Frag} {I H : Hp} (s : Le I H) : ∀ (ds : List D) (vs : List V) (ps : List PyData), toPys ds = some ps → Reps K I ds vs → DpAll K H vs ps
  | [], _, _, h, r => by simp [toPys] at h; subst h; cases (show _ = _ from r); exact .nil
  | d :: ds, _, _, h, r => by
    obtain ⟨v, vs, rfl, g1, g2⟩ := r
    simp only [toPys] at h
    cases e1 : toPy d with
    | none => rw [e1] at h; simp at h
    | some p =>
      rw [e1] at h
      cases e2 : toPys ds with
      | none => rw [e2] at h; simp at h
      | some ps' =>
        rw [e2] at h
        simp at h; subst h
        exact .cons (toPy_dp s d v p e1 g1) (toPys_dp s ds vs ps' e2 g2)
end
theorem dr_eqD {x y : D} {p q : PyData} (hu : X.A.units + 64 < cLine) (h1 : toPy x = some p) (h2 : toPy y = some q) (s1 : SeqAt.shaped p = true) (s2 : SeqAt.shaped q = true) (h : Ψ (.val (.bl (PyData.eqv p q)))) : DR X.K (R2l (wop X (compareOp .Eq))) [x, y] Ψ :=
  dr_R2 fun I H v w s r1 r2 Q k => (op_eqD hu).to ⟨p, q, toPy_dp s _ _ _ h1 r1, toPy_dp s _ _ _ h2 r2, s1, s2, k _ _ I H h (Res.val s rfl)⟩
theorem dr_neD {x y : D} {p q : PyData} (hu : X.A.units + 64 < cLine) (h1 : toPy x = some p) (h2 : toPy y = some q) (s1 : SeqAt.shaped p = true) (s2 : SeqAt.shaped q = true) (h : Ψ (.val (.bl (!PyData.eqv p q)))) : DR X.K (R2l (wop X (compareOp .NotEq))) [x, y] Ψ :=
  dr_R2 fun I H v w s r1 r2 Q k => (op_neD hu).to ⟨p, q, toPy_dp s _ _ _ h1 r1, toPy_dp s _ _ _ h2 r2, s1, s2, k _ _ I H h (Res.val s rfl)⟩
end
end Zd
namespace Zd
open PySem PySem.Spec L2
/-! ### what a loop goes over -/
def Yields (K : PySem.W.Frag) (I0 : Hp) (J : It) (n : Nat) (it : Nat → D → Prop) : Prop := ∀ i I H, Le I0 I → Le I H →
  (i < n → J.go i H ∧ ∀ x H', J.yld i H x H' → ∃ I' d, it i d ∧ Res K I H I' H' (.val d) x) ∧ (i = n → J.stop i H)
def di (G : Gx) (tg iter : Expr) (δ : Env) (Φ : Nat → (Nat → D → Prop) → Env → Prop) : Prop :=
  ∀ σ I H, EnvR G.X.K I H σ δ → XFut G δ I H → ∀ R : It → Hp → Prop, (∀ n it δ' J I' H', Φ n it δ' → EnvR G.X.K I' H' σ δ' → Goes (Own δ) (Own δ') I H I' H' → Yields G.X.K I' J n it → R J H') → wi G.X tg iter σ H R
/-- targets: the slots that they turn -/
def dgt (G : Gx) (tg : Expr) (d : D) (δ : Env) (js : List Nat) (Φ : Env → Prop) : Prop :=
  ∀ σ I H v, EnvR G.X.K I H σ δ → Rep G.X.K I d v → ∀ Q : St → Hp → Prop, (∀ σ' δ', Φ δ' → EnvR G.X.K I H σ' δ' → Goes (Own δ) (Own δ') I H I H → (∀ k, k ∉ js → σ'[k]? = σ[k]?) → σ'.length = σ.length → Q σ' H) → wg G.X tg v σ H Q
section
variable {G : Gx} {δ : Env} {E : DE} {Φ : DV → Env → Prop} {pos : Pos}
theorem dgt_name {i : Nat} {x : Str} {d : D} {Φ : Env → Prop} (hi : Nth G.X.N i x) (h : Put δ i (.val d) Φ) (hN : G.X.N.Nodup) (hx : Loc G.X.env.scope x) (hf : G.X.fn x = true ∨ G.X.env.scope.names.lookup x = some .local) : dgt G (.Name x pos) d δ [i] Φ :=
  fun σ I H v y r Q q => (pg_name hN hi.eq hx hf).to (q _ _ h ((y.cons_val r).set i) (Goes.refl.sub fun a z => own_cons_val.mp (own_set z)) (fun k hk => List.getElem?_set_ne fun e => hk (by simp [e])) (by simp))
/-- a, b = .. (two names) -/
theorem dgt_pair {x y : Str} {px py : Pos} {i j k : Nat} {d e : D} {Φ : Env → Prop} (hi : Nth G.X.N i x) (hj : Nth G.X.N j y) (h : Put δ i (.val d) fun δ1 => Put δ1 j (.val e) Φ) (hN : G.X.N.Nodup) (hc : G.X.calm = true)
    (hx : Loc G.X.env.scope x) (hf : G.X.fn x = true ∨ G.X.env.scope.names.lookup x = some .local) (hy : Loc G.X.env.scope y) (hg : G.X.fn y = true ∨ G.X.env.scope.names.lookup y = some .local)
    (hn : (assignEach [.Name x px, .Name y py] G.X.env).length = 2 := by rfl) (hst : (assignEach [.Name x px, .Name y py] G.X.env).findIdx? (·.1) = none := by rfl)
    (hs1 : (assignEach (.Name x px :: [.Name y py]) G.X.env).map (·.2) = assign (.Name x px) G.X.env :: (assignEach [.Name y py] G.X.env).map (·.2) := by rfl)
    (hs2 : (assignEach (.Name y py :: []) G.X.env).map (·.2) = assign (.Name y py) G.X.env :: (assignEach [] G.X.env).map (·.2) := by rfl) :
    dgt G (.Tuple [.Name x px, .Name y py] k pos) (.tup [d, e]) δ [i, j] Φ := fun σ I H v z r Q q => by
  obtain ⟨a, xs, rfl, h1, h2⟩ := r
  obtain ⟨u, w, rfl, h3, h4⟩ := reps2 h2
  refine (pg_tup hc (pgs_cons (pg_name hN hi.eq hx hf) (pgs_cons (pg_name hN hj.eq hy hg) pgs_nil hs2) hs1) hn hst).to ?_
  refine ⟨a, _, rfl, (z.sub.sqU h1).t, rfl, ?_⟩
  refine ⟨u, _, rfl, w, _, rfl, rfl, ?_⟩
  have z1 := (z.cons_val h3).set i
  have z2 := (z1.cons_val h4).set j
  refine q _ _ h z2 (Goes.refl.sub fun a o => own_cons_val.mp (own_set (own_cons_val.mp (own_set o)))) (fun k hk => ?_) (by simp)
  simp at hk
  rw [List.getElem?_set_ne (fun e => hk.2 e.symm), List.getElem?_set_ne (fun e => hk.1 e.symm)]
/-! ### loops -/
theorem ds_for {tg iter : Expr} {body : List Stmt} (h : di G tg iter δ fun n it δ1 => ∃ (js : List Nat) (Pv : Nat → Env → Prop), Pv 0 δ1 ∧
      (∀ i d δ2, i < n → it i d → Pv i δ2 → dgt G tg d δ2 js fun δ3 => dsb G body δ3 { E with nx := Pv (i + 1), ct := Pv (i + 1), bk := E.nx }) ∧ ∀ δ2, Pv n δ2 → E.nx δ2)
    (hp : PassesOwn (model G.X.prog G.X.w) G.X.A G.X.env G.X.xe) (hc : G.X.calm = true) (hs : ∀ x, foldedSetIterable iter G.X.env x = pure x) : ds G (.For tg iter body [] pos) δ E := fun σ I H T x f =>
  (ps_for hp hc PI.of PG.of PSs.of hs).to (h σ I H x f.xc _ fun n it δ1 J I1 H1 ⟨js, Pv, h0, step, done⟩ y g yl => by
    refine ⟨fun i m σ2 H2 => i + m = n ∧ ∃ δ2 I2, Pv i δ2 ∧ EnvR G.X.K I2 H2 σ2 δ2 ∧ Goes (Own δ) (Own δ2) I H I2 H2 ∧ Le I1 I2, ⟨n, by omega, δ1, I1, h0, y, g, Le.refl _⟩, ?_⟩
    rintro i m σ2 H2 ⟨him, δ2, I2, p2, y2, g2, l2⟩
    obtain ⟨y1', y2'⟩ := yl i I2 H2 l2 y2.sub
    by_cases hi : i < n
    · obtain ⟨go, yld⟩ := y1' hi
      refine .inr ⟨go, fun σ' H' => ∃ δ' I', Pv (i + 1) δ' ∧ EnvR G.X.K I' H' σ' δ' ∧ Goes (Own δ) (Own δ') I H I' H' ∧ Le I1 I', fun σ' H' h' => ⟨m - 1, by omega, by omega, h'⟩, ?_⟩
      intro v H3 hv
      obtain ⟨I3, d, hd, re⟩ := yld v H3 hv
      have y3 := y2.grow re.le re.sub re.hh re.nw
      have g3 : Goes (Own δ2) (Own δ2) I2 H2 I3 H3 := Goes.grow re.le re.hh re.nw
      have g3' := g2.trans g3 y2.sub
      refine step i d δ2 hi hd p2 σ2 I3 H3 v y3 re.rel _ fun σ4 δ4 b4 y4 g4 _ _ => ?_
      have g4' := g3'.trans g4 y3.sub
      have f4 := f.go g4' y4.sub
      exact b4 σ4 I3 H3 _ y4 ⟨fun σ' δ' I' H' a b c => ⟨δ', I', a, b, g4'.trans c y4.sub, (l2.trans re.le).trans c.le⟩, f4.rt, f4.nx, fun σ' δ' I' H' a b c => ⟨δ', I', a, b, g4'.trans c y4.sub, (l2.trans re.le).trans c.le⟩, f4.xc⟩
    · have hn : i = n := by omega
      refine .inl ⟨y2' hn, f.nx σ2 δ2 I2 H2 (done δ2 ?_) y2 g2⟩
      rw [← hn]
      exact p2)
theorem ds_while {c : Expr} {body : List Stmt} (Pv : Nat → Env → Prop) {m0 : Nat} (h0 : Pv m0 δ)
    (step : ∀ m δ2, Pv m δ2 → dt G c δ2 fun b δ3 => if b = true then dsb G body δ3 { E with nx := fun δ4 => ∃ m', m' < m ∧ Pv m' δ4, ct := fun δ4 => ∃ m', m' < m ∧ Pv m' δ4, bk := E.nx } else E.nx δ3)
    (hp : PassesOwn (model G.X.prog G.X.w) G.X.A G.X.env G.X.xe) : ds G (.While c body [] pos) δ E := fun σ I H T x f =>
  (ps_while hp PT.of PSs.of).to (by
    refine ⟨fun m σ2 H2 => ∃ δ2 I2, Pv m δ2 ∧ EnvR G.X.K I2 H2 σ2 δ2 ∧ Goes (Own δ) (Own δ2) I H I2 H2, ⟨m0, δ, I, h0, x, Goes.refl⟩, ?_⟩
    rintro m σ2 H2 ⟨δ2, I2, p2, y2, g2⟩
    have f2 := f.go g2 y2.sub
    refine step m δ2 p2 σ2 I2 H2 y2 f2.xc _ fun b δ3 I3 H3 a3 y3 g3 => ?_
    have g3' := g2.trans g3 y2.sub
    have f3 := f.go g3' y3.sub
    cases b with
    | false =>
      rw [if_neg Bool.false_ne_true] at a3 ⊢
      exact f3.nx σ2 δ3 I3 H3 a3 y3 Goes.refl
    | true =>
      rw [if_pos rfl] at a3 ⊢
      refine ⟨fun σ4 H4 => ∃ m', m' < m ∧ ∃ δ4 I4, Pv m' δ4 ∧ EnvR G.X.K I4 H4 σ4 δ4 ∧ Goes (Own δ) (Own δ4) I H I4 H4, fun σ4 H4 h => h, ?_⟩
      exact a3 σ2 I3 H3 _ y3 ⟨fun σ4 δ4 I4 H4 ⟨m', hm, a⟩ b c => ⟨m', hm, δ4, I4, a, b, g3'.trans c y3.sub⟩, f3.rt, f3.nx, fun σ4 δ4 I4 H4 ⟨m', hm, a⟩ b c => ⟨m', hm, δ4, I4, a, b, g3'.trans c y3.sub⟩, f3.xc⟩)
/-! what may be gone over -/
theorem di_list {tg l : Expr} {Φ : Nat → (Nat → D → Prop) → Env → Prop} (h : de G l δ fun r δ1 => ∃ as, r ≠ .no ∧ r.toD = .lst as ∧ Φ as.length (fun i d => as[i]? = some d) δ1) : di G tg l δ Φ := fun σ I H x f R q =>
  (pi_list PE.of).to (h σ I H x f _ fun r δ1 v I1 H1 ⟨as, nr, e, hΦ⟩ y g => by
    obtain ⟨I2, y2, rp, g2⟩ := top_fast y g nr
    rw [e] at rp
    obtain ⟨a, xs, rfl, h1, h2⟩ := rp
    refine ⟨a, rfl, ⟨xs, SqL.of (y2.sub _ _ h1)⟩, q _ _ δ1 _ I2 H1 hΦ y2 g2 fun i I' H' l1 l2 => ?_⟩
    have hx := SqL.of (K := G.X.K) (l2 _ _ (l1 _ _ h1))
    refine ⟨fun hi => ?_, fun hi => ⟨xs, hx, by rw [h2.length]; omega⟩⟩
    obtain ⟨w, e1, e2⟩ := h2.get (List.getElem?_eq_getElem hi)
    refine ⟨⟨xs, w, hx, e1⟩, fun z H2 ⟨e3, e4⟩ => ?_⟩
    have := e4 xs hx
    rw [e1] at this
    cases this
    rw [e3]
    exact ⟨I', _, List.getElem?_eq_getElem hi, Res.val l2 (Rep.mono l1 _ _ e2)⟩)
theorem di_klist {tg l : Expr} {Φ : Nat → (Nat → D → Prop) → Env → Prop} (h : de G l δ fun r δ1 => ∃ as, r = .val (.klst as) ∧ Φ as.length (fun i d => as[i]? = some d) δ1) : di G tg l δ Φ := fun σ I H x f R q =>
  (pi_list PE.of).to (h σ I H x f _ fun r δ1 v I1 H1 ⟨as, e, hΦ⟩ y g => by
    subst e
    obtain ⟨I2, y2, rp, g2⟩ := top_fast y g (by simp)
    obtain ⟨a, xs, rfl, h1, h2⟩ := rp
    refine ⟨a, rfl, ⟨xs, y2.sub.sqL h1⟩, q _ _ δ1 _ I2 H1 hΦ y2 g2 fun i I' H' l1 l2 => ?_⟩
    have hx := l2.sqL (l1.sqL h1)
    refine ⟨fun hi => ?_, fun hi => ⟨xs, hx, by rw [h2.length]; omega⟩⟩
    obtain ⟨w, e1, e2⟩ := h2.get (List.getElem?_eq_getElem hi)
    refine ⟨⟨xs, w, hx, e1⟩, fun z H2 ⟨e3, e4⟩ => ?_⟩
    have := e4 xs hx
    rw [e1] at this
    cases this
    rw [e3]
    exact ⟨I', _, List.getElem?_eq_getElem hi, Res.val l2 (Rep.mono l1 _ _ e2)⟩)
theorem di_tup {tg l : Expr} {Φ : Nat → (Nat → D → Prop) → Env → Prop} (h : de G l δ fun r δ1 => ∃ as, r = .val (.tup as) ∧ Φ as.length (fun i d => as[i]? = some d) δ1) : di G tg l δ Φ := fun σ I H x f R q =>
  (pi_tup PE.of).to (h σ I H x f _ fun r δ1 v I1 H1 ⟨as, e, hΦ⟩ y g => by
    subst e
    obtain ⟨I2, y2, rp, g2⟩ := top_fast y g (by simp)
    obtain ⟨a, xs, rfl, h1, h2⟩ := rp
    refine ⟨a, rfl, ⟨xs, (y2.sub.sqU h1).t⟩, q _ _ δ1 _ I2 H1 hΦ y2 g2 fun i I' H' l1 l2 => ?_⟩
    have hx := (l2.sqU (l1.sqU h1)).t
    refine ⟨fun hi => ?_, fun hi => ⟨xs, hx, by rw [h2.length]; omega⟩⟩
    obtain ⟨w, e1, e2⟩ := h2.get (List.getElem?_eq_getElem hi)
    refine ⟨⟨xs, w, hx, e1⟩, fun z H2 ⟨e3, e4⟩ => ?_⟩
    have := e4 xs hx
    rw [e1] at this
    cases this
    rw [e3]
    exact ⟨I', _, List.getElem?_eq_getElem hi, Res.val l2 (Rep.mono l1 _ _ e2)⟩)
theorem di_str {tg l : Expr} {Φ : Nat → (Nat → D → Prop) → Env → Prop} (h : de G l δ fun r δ1 => ∃ s : Str, r = .val (.str s) ∧ Φ s.cps.size (fun i d => ∃ c, s.cps[i]? = some c ∧ d = .str ⟨#[c]⟩) δ1) : di G tg l δ Φ := fun σ I H x f R q =>
  (pi_str PE.of).to (h σ I H x f _ fun r δ1 v I1 H1 ⟨s, e, hΦ⟩ y g => by
    subst e
    obtain ⟨I2, y2, rp, g2⟩ := top_fast y g (by simp)
    cases (show _ = _ from rp)
    refine ⟨s, rfl, q _ _ δ1 _ I2 H1 hΦ y2 g2 fun i I' H' l1 l2 => ⟨fun hi => ⟨hi, fun z H2 ⟨e3, c, e4, e5⟩ => ?_⟩, fun hi => (by show s.cps.size ≤ i; omega)⟩⟩
    rw [e3, e5]
    exact ⟨I', .str ⟨#[c]⟩, ⟨c, e4, rfl⟩, Res.val l2 rfl⟩)
theorem wes_tcons {X : Cx} {a : Expr} {es : List Expr} {σ : L2.St} {H : Hp} {Q : List V → Hp → Prop} (h : wes X (a :: es) σ H Q) : tCons (we X a) (wes X es) σ H Q := h
theorem di_range1 {tg a : Expr} {p : Pos} {Φ : Nat → (Nat → D → Prop) → Env → Prop} (h : dgs G [a] δ fun as δ1 => ∃ n : Int, as = [.v (.int n)] ∧ n < 2 ^ 62 ∧ -(2 ^ 62) ≤ n ∧ Φ n.toNat (fun i d => d = .int (i : Int)) δ1)
    (hg : Gl G.X "range") (hm : G.X.mg "range" = none) (ha : PA G.X [a] (wes G.X [a])) (hs : starEach [a] G.X.env = [(false, eval a G.X.env)] := by rfl) : di G tg (.Call (.Name "range" p) [a] [] pos) δ Φ := fun σ I H x f R q =>
  (pi_range1 hg hm ha hs).to (h σ I H x f _ fun as δ1 vs I1 H1 ⟨n, e, h1, h2, hΦ⟩ y ar g => by
    subst e
    obtain ⟨u, r, rfl, e1, e2⟩ := ar
    cases (show _ = _ from e1)
    cases (show _ = _ from e2)
    refine ⟨n, rfl, h2, h1, q _ _ δ1 _ I1 H1 hΦ y g fun i I' H' l1 l2 => ⟨fun hi => ⟨hi, fun z H2 ⟨e3, e4⟩ => ?_⟩, fun hi => (by show n.toNat ≤ i; omega)⟩⟩
    rw [e3, e4]
    exact ⟨I', .int (i : Int), rfl, Res.val l2 (by show V.int ((0 : Int) + (i : Int)) = V.int (i : Int); rw [Int.zero_add])⟩)
theorem di_range2 {tg a b : Expr} {p : Pos} {Φ : Nat → (Nat → D → Prop) → Env → Prop} (h : dgs G [a, b] δ fun as δ1 => ∃ m n : Int, as = [.v (.int m), .v (.int n)] ∧ (-(2 ^ 62) ≤ m ∧ m < 2 ^ 62 ∧ -(2 ^ 62) ≤ n ∧ n < 2 ^ 62) ∧ Φ (n - m).toNat (fun i d => d = .int (m + (i : Int))) δ1)
    (hg : Gl G.X "range") (hm : G.X.mg "range" = none) (ha : PA G.X [a, b] (wes G.X [a, b])) (hs : starEach [a, b] G.X.env = [(false, eval a G.X.env), (false, eval b G.X.env)] := by rfl) (hs2 : starEach [b] G.X.env = [(false, eval b G.X.env)] := by rfl) :
    di G tg (.Call (.Name "range" p) [a, b] [] pos) δ Φ := fun σ I H x f R q =>
  (pi_range2 hg hm ha hs hs2).to (h σ I H x f _ fun as δ1 vs I1 H1 ⟨m, n, e, hb, hΦ⟩ y ar g => by
    subst e
    obtain ⟨u, r, rfl, e1, ar⟩ := ar
    obtain ⟨w, r, rfl, e2, e3⟩ := ar
    cases (show _ = _ from e1)
    cases (show _ = _ from e2)
    cases (show _ = _ from e3)
    refine ⟨m, n, rfl, hb, q _ _ δ1 _ I1 H1 hΦ y g fun i I' H' l1 l2 => ⟨fun hi => ⟨hi, fun z H2 ⟨e3, e4⟩ => ?_⟩, fun hi => (by show (n - m).toNat ≤ i; omega)⟩⟩
    rw [e3, e4]
    exact ⟨I', .int (m + (i : Int)), rfl, Res.val l2 rfl⟩)
end
theorem ifT {A B : Prop} (h : if true = true then A else B) : A := by
  rw [if_pos rfl] at h
  exact h
/-! ### list comprehensions -/
def wipeE (δ : Env) : List Nat → Env
  | [] => δ
  | v :: vs => (wipeE δ vs).set v .no
theorem wipeE_length (δ : Env) : ∀ vs : List Nat, (wipeE δ vs).length = δ.length
  | [] => rfl
  | v :: vs => by unfold wipeE; rw [List.length_set, wipeE_length δ vs]
theorem wipeE_in {δ : Env} {v : Nat} {y : DV} : ∀ {vs : List Nat}, v ∈ vs → (wipeE δ vs)[v]? = some y → y = .no
  | [], h, _ => by cases h
  | w :: vs, h, e => by
    unfold wipeE at e
    by_cases hw : w = v
    · subst hw
      by_cases hl : w < (wipeE δ vs).length
      · rw [List.getElem?_set_self hl] at e
        exact (Option.some.inj e).symm
      · rw [List.getElem?_eq_none (by simpa using hl)] at e
        cases e
    · rw [List.getElem?_set_ne hw] at e
      rcases List.mem_cons.mp h with h | h
      · exact absurd h.symm hw
      · exact wipeE_in h e
theorem wipeE_out {δ : Env} {v : Nat} : ∀ {vs : List Nat}, v ∉ vs → (wipeE δ vs)[v]? = δ[v]?
  | [], _ => rfl
  | w :: vs, h => by
    unfold wipeE
    simp at h
    rw [List.getElem?_set_ne (fun e => h.1 e.symm), wipeE_out h.2]
theorem own_wipe {δ : Env} {vs : List Nat} {a : Addr} (h : Own (wipeE δ vs) a) : Own δ a := by
  obtain ⟨i, c, e⟩ := h
  by_cases hi : i ∈ vs
  · cases wipeE_in hi e
  · rw [wipeE_out hi] at e
    exact ⟨i, c, e⟩
/-- slots that are forgotten may hold anything -/
theorem EnvR.rewipe {K : PySem.W.Frag} {I H : Hp} {σ σ' : L2.St} {δ : Env} {vs : List Nat} (x : EnvR K I H σ δ) (h : ∀ k, k ∉ vs → σ'[k]? = σ[k]?) (hl : σ'.length = σ.length) : EnvR K I H σ' (wipeE δ vs) := by
  refine ⟨x.sub, by rw [hl, wipeE_length, x.len], fun i d e => ?_, fun i p c e => ?_, fun i j p c c' e1 e2 => ?_⟩
  · by_cases hi : i ∈ vs
    · cases wipeE_in hi e
    · rw [wipeE_out hi] at e
      rw [h i hi]
      exact x.val i d e
  · by_cases hi : i ∈ vs
    · cases wipeE_in hi e
    · rw [wipeE_out hi] at e
      rw [h i hi]
      exact x.own i p c e
  · by_cases hi : i ∈ vs
    · cases wipeE_in hi e1
    · by_cases hj : j ∈ vs
      · cases wipeE_in hj e2
      · rw [wipeE_out hi] at e1
        rw [wipeE_out hj] at e2
        exact x.inj i j p c c' e1 e2
theorem wipe_get {σ : L2.St} {vs : List Nat} {k : Nat} (h : k ∉ vs) : (wipe σ vs)[k]? = σ[k]? := by
  induction vs with
  | nil => rfl
  | cons v vs ih =>
    simp at h
    unfold wipe
    rw [List.getElem?_set_ne (fun e => h.1 e.symm), ih h.2]
theorem wipe_at {σ : L2.St} {vs : List Nat} {k : Nat} (h : k ∈ vs) (hk : k < σ.length) : (wipe σ vs)[k]? = some none := by
  induction vs with
  | nil => cases h
  | cons v vs ih =>
    unfold wipe
    by_cases hv : v = k
    · subst hv
      rw [List.getElem?_set_self (by rw [wipe_length]; exact hk)]
    · rw [List.getElem?_set_ne hv]
      rcases List.mem_cons.mp h with h | h
      · exact absurd h.symm hv
      · exact ih h
theorem wipe_same {σ σ' : L2.St} {vs : List Nat} (h : ∀ k, k ∉ vs → σ'[k]? = σ[k]?) (hl : σ'.length = σ.length) : wipe σ' vs = wipe σ vs := by
  apply List.ext_getElem?
  intro k
  by_cases hk : k ∈ vs
  · by_cases hs : k < σ.length
    · rw [wipe_at hk hs, wipe_at hk (by omega)]
    · rw [List.getElem?_eq_none (by rw [wipe_length]; omega), List.getElem?_eq_none (by rw [wipe_length]; omega)]
  · rw [wipe_get hk, wipe_get hk, h k hk]
abbrev Gx.blk (G : Gx) (scope : Scope) (s : Shared) (H : Hp) (C : Addr) (cl : List (Str × Addr)) (fp : List Addr) : Gx := ⟨G.X.blk s H scope (compEnvC scope cl C G.X.env) fp, fun _ _ _ _ => False, fun _ _ => False⟩
theorem xfut_blk {G : Gx} {scope : Scope} {s : Shared} {H : Hp} {C : Addr} {cl : List (Str × Addr)} {fp : List Addr} {δ : Env} {I H1 : Hp} : XFut (G.blk scope s H C cl fp) δ I H1 := fun _ _ _ _ _ _ _ h => h.elim
def wgB (X : Cx) (scope : Scope) (tg : Expr) : TG := fun v σ H Q => ∀ s0 H0 C cl fp, wg (X.blk s0 H0 scope (compEnvC scope cl C X.env) fp) tg v σ H Q
def wtB (X : Cx) (scope : Scope) (e : Expr) : TT := fun σ H Q => ∀ s0 H0 C cl fp, wt (X.blk s0 H0 scope (compEnvC scope cl C X.env) fp) e σ H Q
def weB (X : Cx) (scope : Scope) (e : Expr) : TE := fun σ H Q => ∀ s0 H0 C cl fp, Zh.Lv (X.blk s0 H0 scope (compEnvC scope cl C X.env) fp) → we (X.blk s0 H0 scope (compEnvC scope cl C X.env) fp) e σ H Q
/-- the tests of a comprehension: none, or one -/
inductive Tests (X : Cx) (scope : Scope) : List Expr → TT → Prop where
  | nil : Tests X scope [] tYes
  | one {c : Expr} : Tests X scope [c] (wtB X scope c)
def dts (G : Gx) (scope : Scope) : List Expr → Env → (Bool → Env → Prop) → Prop
  | [], δ, Φ => Φ true δ
  | [c], δ, Φ => ∀ s H C cl fp, dt (G.blk scope s H C cl fp) c δ Φ
  | _, _, _ => False
/-- what a comprehension asks -/
structure LcOk (G : Gx) (elt tg : Expr) (ifs : List Expr) (scope : Scope) (vs : List Nat) (n : Nat) (it : Nat → D → Prop) (δ1 : Env) (Ψ : List D → Env → Prop) (Pv : Nat → List D → Env → Prop) : Prop where
  h0 : Pv 0 [] (wipeE δ1 vs)
  step : ∀ i d acc δ2, i < n → it i d → Pv i acc δ2 → ∀ s H C cl fp, ∃ js, (∀ j ∈ js, j ∈ vs) ∧ dgt (G.blk scope s H C cl fp) tg d δ2 js fun δ3 => dts G scope ifs δ3 fun b δ4 =>
    if b = true then ∀ s H C cl fp, Zh.Lv (G.X.blk s H scope (compEnvC scope cl C G.X.env) fp) → de (G.blk scope s H C cl fp) elt δ4 fun r δ5 => ∃ e, Fast r e ∧ acc.length < sizeLine ∧ Pv (i + 1) (acc ++ [e]) (wipeE δ5 vs) else Pv (i + 1) acc (wipeE δ4 vs)
  done : ∀ acc δ2, Pv n acc δ2 → Ψ acc δ2
section
variable {G : Gx} {δ : Env} {E : DE} {Φ : DV → Env → Prop} {pos : Pos}
theorem lc_reads {elt tg : Expr} {ifs : List Expr} {scope : Scope} {vs : List Nat} {n : Nat} {it : Nat → D → Prop} {δ1 : Env} {tt : TT} {Pv : Nat → List D → Env → Prop} {σ : L2.St} {I1 H1 : Hp} {J : It} {Q : VK}
    (ht : Tests G.X scope ifs tt) (y : EnvR G.X.K I1 H1 σ δ1) (yl : Yields G.X.K I1 J n it) (k : LcOk G elt tg ifs scope vs n it δ1 (fun acc δ2 => ∀ p, Φ (.own p (.lst acc)) δ2) Pv)
    (q : ∀ r δ' v I' H', Φ r δ' → EnvR G.X.K I' H' (some v :: σ) (r :: δ') → Goes (Own δ1) (Own (r :: δ')) I1 H1 I' H' → Q v H') (Dl : Addr) (hD : H1 Dl = none) :
    ∃ W : Nat → Nat → Hp → Prop, (∃ m, W 0 m (upd H1 Dl (.lst []))) ∧ ∀ i m H, W i m H →
      (J.stop i H ∧ Q (.ref Dl) H) ∨ (J.go i H ∧ ∃ Nx : Hp → Prop, (∀ H', Nx H' → ∃ m', m' < m ∧ W (i + 1) m' H') ∧ ∀ x H', J.yld i H x H' → wgB G.X scope tg x (wipe σ vs) H' fun σ2 H2 => wipe σ2 vs = wipe σ vs ∧ tt σ2 H2 fun b H3 =>
        if b = true then weB G.X scope elt σ2 H3 fun y H4 => ∃ acc, H4 Dl = some (.lst acc) ∧ acc.length < sizeLine ∧ Nx (upd H4 Dl (.lst (acc ++ [y]))) else Nx H3) := by
  have iD : I1 Dl = none := le_none y.sub hD
  -- the state between two turns: the list that is made stands apart
  let St' : Nat → Hp → Prop := fun i H => ∃ acc xs δ2 I2, Pv i acc δ2 ∧ (∃ δ0, δ2 = wipeE δ0 vs) ∧ H Dl = some (.lst xs) ∧ Reps G.X.K I2 acc xs ∧ I2 Dl = none ∧ ¬ Own δ2 Dl ∧ EnvR G.X.K I2 H (wipe σ vs) δ2 ∧ Goes (Own δ1) (Own δ2) I1 H1 I2 H ∧ Le I1 I2
  have init : St' 0 (upd H1 Dl (.lst [])) := by
    have y1 : EnvR G.X.K I1 (upd H1 Dl (.lst [])) σ δ1 := y.grow (Le.refl _) (fun a o h => by rw [upd_ne (ne_of_none h iD)]; exact y.sub _ _ h) (Le.new hD) (fun _ _ _ h => h)
    refine ⟨[], [], _, I1, k.h0, ⟨δ1, rfl⟩, upd_same, rfl, iD, fun ho => ?_, y1.rewipe (fun k hk => wipe_get hk) (wipe_length _ _), ⟨Le.refl _, fun a o h i _ => ⟨Le.new hD a o h, i⟩, fun a h => .inl (own_wipe h)⟩, Le.refl _⟩
    obtain ⟨i, c, e⟩ := own_wipe ho
    obtain ⟨o, ho⟩ := (y.own i _ c e).2.2.there
    rw [hD] at ho; cases ho
  refine ⟨fun i m H => i + m = n ∧ St' i H, ⟨n, by omega, init⟩, ?_⟩
  rintro i m H ⟨him, acc, xs, δ2, I2, p2, wz, hDl, rps, iD2, nO2, y2, g2, l2⟩
  obtain ⟨yg, ys⟩ := yl i I2 H l2 y2.sub
  by_cases hi : i < n
  · obtain ⟨go, yld⟩ := yg hi
    refine .inr ⟨go, St' (i + 1), fun H' h' => ⟨m - 1, by omega, by omega, h'⟩, fun v H3 hv => ?_⟩
    obtain ⟨I3, d, hd, re⟩ := yld v H3 hv
    have y3 := y2.grow re.le re.sub re.hh re.nw
    have g3 : Goes (Own δ2) (Own δ2) I2 H I3 H3 := Goes.grow re.le re.hh re.nw
    have g3' := g2.trans g3 y2.sub
    have hDl3 : H3 Dl = some (.lst xs) := re.hh _ _ hDl
    have iD3 : I3 Dl = none := re.nw _ _ hDl iD2
    intro s0 H0 C cl fp
    obtain ⟨js, hjs, hst⟩ := k.step i d acc δ2 hi hd p2 s0 H0 C cl fp
    refine hst (wipe σ vs) I3 H3 v y3 re.rel _ fun σ4 δ4 b4 y4 g4 hk hl => ?_
    have g4' := g3'.trans g4 y3.sub
    have nO4 : ¬ Own δ4 Dl := fun ho => by
      rcases g4.new _ ho with h | h
      · exact nO2 h
      · rw [hDl3] at h; cases h
    have ksame : ∀ k, k ∉ vs → σ4[k]? = (wipe σ vs)[k]? := fun k hk' => hk k fun h => hk' (hjs k h)
    have wsame : wipe σ4 vs = wipe σ vs := by
      rw [wipe_same ksame hl]
      exact wipe_same (fun k hk => wipe_get hk) (wipe_length _ _)
    refine ⟨wsame, ?_⟩
    -- behind a turn: what is left of it
    have back : ∀ {acc' : List D} {xs' : List V} {δ5 : Env} {I5 H5 : Hp}, Pv (i + 1) acc' (wipeE δ5 vs) → H5 Dl = some (.lst xs') → Reps G.X.K I5 acc' xs' → I5 Dl = none → ¬ Own δ5 Dl → EnvR G.X.K I5 H5 σ4 δ5 → Goes (Own δ1) (Own δ5) I1 H1 I5 H5 → Le I1 I5 → St' (i + 1) H5 := fun {acc' xs' δ5 I5 H5} a b c d e f g h =>
      ⟨acc', xs', _, I5, a, ⟨δ5, rfl⟩, b, c, d, fun o => e (own_wipe o), f.rewipe (fun k hk => (ksame k hk).symm) hl.symm, g.sub fun a o => own_wipe o, h⟩
    have elts : ∀ {δ5 : Env} {I5 H5 : Hp}, (∀ s H C cl fp, Zh.Lv (G.X.blk s H scope (compEnvC scope cl C G.X.env) fp) → de (G.blk scope s H C cl fp) elt δ5 fun r δ6 => ∃ e, Fast r e ∧ acc.length < sizeLine ∧ Pv (i + 1) (acc ++ [e]) (wipeE δ6 vs)) → EnvR G.X.K I5 H5 σ4 δ5 → Goes (Own δ4) (Own δ5) I3 H3 I5 H5 →
        weB G.X scope elt σ4 H5 fun y H4 => ∃ acc, H4 Dl = some (.lst acc) ∧ acc.length < sizeLine ∧ St' (i + 1) (upd H4 Dl (.lst (acc ++ [y]))) := fun {δ5 I5 H5} he y5 g5 => by
      intro s0 H0 C cl fp lv
      refine he s0 H0 C cl fp lv σ4 I5 H5 y5 xfut_blk _ fun r δ6 u I6 H6 ⟨e', fs, hz, pn⟩ y6 g6 => ?_
      have nr := fs.ne
      rw [← fs.eq] at pn
      obtain ⟨I7, y7, rp7, g7⟩ := top_fast y6 g6 nr
      have g57 := g5.trans g7 y5.sub
      obtain ⟨hD7, iD7⟩ := g57.keep _ _ hDl3 iD3 nO4
      have nO7 : ¬ Own δ6 Dl := fun ho => by
        rcases g57.new _ ho with h | h
        · exact nO4 h
        · rw [hDl3] at h; cases h
      have lng : xs.length = acc.length := rps.length
      have l37 : Le I3 I7 := g57.le
      have rps' := Reps.mono (re.le.trans l37) _ _ rps
      refine ⟨xs, hD7, by rw [lng]; exact hz, ?_⟩
      have keepEnv : EnvR G.X.K I7 (upd H6 Dl (.lst (xs ++ [u]))) σ4 δ6 := by
        refine ⟨fun a o e => ?_, y7.len, y7.val, fun j p c e => ?_, y7.inj⟩
        · rw [upd_ne (ne_of_none e iD7)]
          exact y7.sub _ _ e
        · obtain ⟨a1, a2, a3⟩ := y7.own j p c e
          have hp : p ≠ Dl := fun z => nO7 ⟨j, c, by rw [← z]; exact e⟩
          exact ⟨a1, a2, a3.mono (Le.refl _) fun o ho => by rw [upd_ne hp]; exact ho⟩
      have gAll : Goes (Own δ1) (Own δ6) I1 H1 I7 (upd H6 Dl (.lst (xs ++ [u]))) := by
        have g := g4'.trans g57 y4.sub
        refine ⟨g.le, fun a o h i np => ?_, g.new⟩
        obtain ⟨z1, z2⟩ := g.keep a o h i np
        refine ⟨?_, z2⟩
        rw [upd_ne (ne_of_none h hD)]
        exact z1
      exact back pn upd_same (rps'.append (Reps.cons rp7 Reps.nil)) iD7 nO7 keepEnv gAll ((l2.trans re.le).trans l37)
    cases ht with
    | nil =>
      refine iteT (B := St' (i + 1) H3) ?_
      exact elts (ifT (B := Pv (i + 1) acc (wipeE δ4 vs)) b4) y4 Goes.refl
    | one =>
      intro s0 H0 C cl fp
      refine b4 s0 H0 C cl fp σ4 I3 H3 y4 xfut_blk _ fun b δ5 I5 H5 a5 y5 g5 => ?_
      cases b with
      | true =>
        rw [if_pos rfl] at a5 ⊢
        exact elts a5 y5 g5
      | false =>
        rw [if_neg Bool.false_ne_true] at a5 ⊢
        obtain ⟨hD5, iD5⟩ := g5.keep _ _ hDl3 iD3 nO4
        have nO5 : ¬ Own δ5 Dl := fun ho => by
          rcases g5.new _ ho with h | h
          · exact nO4 h
          · rw [hDl3] at h; cases h
        exact back a5 hD5 (Reps.mono (re.le.trans g5.le) _ _ rps) iD5 nO5 y5 (g4'.trans g5 y4.sub) ((l2.trans re.le).trans g5.le)
  · have hn : i = n := by omega
    refine .inl ⟨ys hn, ?_⟩
    have pn : Pv n acc δ2 := by rw [← hn]; exact p2
    have y2' : EnvR G.X.K I2 H σ δ2 := by
      obtain ⟨δ0, rfl⟩ := wz
      have e : wipeE (wipeE δ0 vs) vs = wipeE δ0 vs := by
        apply List.ext_getElem?
        intro k
        by_cases hk : k ∈ vs
        · cases h : (wipeE δ0 vs)[k]? with
          | none =>
            have := List.getElem?_eq_none_iff.mp h
            exact List.getElem?_eq_none (by rw [wipeE_length]; exact this)
          | some z =>
            have hz := wipeE_in hk h
            subst hz
            have hlt : k < (wipeE (wipeE δ0 vs) vs).length := by
              rw [wipeE_length]
              exact (List.getElem?_eq_some_iff.mp h).1
            have h2 := List.getElem?_eq_getElem hlt
            rw [h2, wipeE_in hk h2]
        · rw [wipeE_out hk]
      have := y2.rewipe (σ' := σ) (vs := vs) (fun k hk => (wipe_get hk).symm) (wipe_length _ _).symm
      rw [e] at this
      exact this
    refine q (.own Dl (.lst acc)) δ2 (.ref Dl) I2 H (k.done acc δ2 pn Dl) (y2'.cons_own nO2 iD2 ⟨xs, hDl, rps⟩) ⟨g2.le, g2.keep, fun a ha => ?_⟩
    obtain ⟨j, c, e⟩ := ha
    cases j with
    | zero =>
      simp at e
      obtain ⟨rfl, rfl⟩ := e
      exact .inr hD
    | succ j => exact g2.new a ⟨j, c, by simpa using e⟩
theorem tests_pts {X : Cx} {scope : Scope} {ifs : List Expr} {tt : TT} (h : Tests X scope ifs tt) (s : Shared) (H : Hp) (C : Addr) (cl : List (Str × Addr)) (fp : List Addr) : PTs (X.blk s H scope (compEnvC scope cl C X.env) fp) ifs tt := by
  cases h with
  | nil => exact pts_nil
  | one => exact pts_one ⟨fun pins s' σ H' Q I h => h s H C cl fp pins s' I⟩
theorem de_lc {elt tg iter : Expr} {ifs : List Expr} {scope : Scope} {own : List (Str × Nat)} {tt : TT} (ht : Tests G.X scope ifs tt)
    (h : di G tg iter δ fun n it δ1 => ∃ Pv, LcOk G elt tg ifs scope (own.map (·.2)) n it δ1 (fun acc δ2 => ∀ p, Φ (.own p (.lst acc)) δ2) Pv) (hc : G.X.calm = true) (hN : G.X.N.Nodup) (ok : BlkOk G.X.N G.X.env.scope scope own)
    (hs : ∀ x, foldedSetIterable iter G.X.env x = pure x := by intro _; rfl) : de G (.ListComp elt [⟨tg, iter, ifs, 0⟩] scope pos) δ Φ := fun σ I H x f Q q =>
  (pe_lc (g := wgB G.X scope tg) (tt := tt) (te := weB G.X scope elt) hc hN PI.of ok (fun s H C cl fp => ⟨fun pins s' σ H' v u Q I r h => h s H C cl fp pins s' u I r⟩) (tests_pts ht) (fun s H C cl fp => ⟨fun pins s' σ H' Q I h => h s H C cl fp (.inl hc) pins s' I⟩) hs).to
    (h σ I H x f _ fun n it δ1 J I1 H1 ⟨Pv, k⟩ y g yl => fun Dl hD => lc_reads (Φ := Φ) ht y yl k (fun r δ' v I' H' a b c => q r δ' v I' H' a b (g.trans c y.sub)) Dl hD)
theorem ds_asgLc {i : Nat} {y : Str} {py : Pos} {elt tg iter : Expr} {ifs : List Expr} {scope : Scope} {own : List (Str × Nat)} {tt : TT} {spos : Pos} (hi : Nth G.X.N i y) (ht : Tests G.X scope ifs tt)
    (h : di G tg iter δ fun n it δ1 => ∃ Pv, LcOk G elt tg ifs scope (own.map (·.2)) n it δ1 (fun acc δ2 => ∀ p, Put δ2 i (.own p (.lst acc)) E.nx) Pv) (hc : G.X.calm = true) (hN : G.X.N.Nodup) (hyl : G.X.env.scope.names.lookup y = some .local) (ok : BlkOk G.X.N G.X.env.scope scope own)
    (hsw : swapsWith (.ListComp elt [⟨tg, iter, ifs, 0⟩] scope pos) (some (.Name y py)) spos.line G.X.env = pure true)
    (hs : ∀ x, foldedSetIterable iter G.X.env x = pure x := by intro _; rfl) : ds G (.Assign [.Name y py] (.ListComp elt [⟨tg, iter, ifs, 0⟩] scope pos) spos) δ E := fun σ I H T x f =>
  (ps_setLc (g := wgB G.X scope tg) (tt := tt) (te := weB G.X scope elt) hc hN hi.eq hyl hsw PI.of ok (fun s H C cl fp => ⟨fun pins s' σ H' v u Q I r h => h s H C cl fp pins s' u I r⟩) (tests_pts ht) (fun s H C cl fp => ⟨fun pins s' σ H' Q I h => h s H C cl fp (.inl hc) pins s' I⟩) hs).to
    (h σ I H x f.xc _ fun n it δ1 J I1 H1 ⟨Pv, k⟩ z g yl => fun Dl hD => lc_reads (Φ := fun r δ' => Put δ' i r E.nx) ht z yl k (fun r δ' v I' H' a b c => f.nx _ _ I' H' a (b.set i) ((g.trans c z.sub).sub fun _ => own_set)) Dl hD)
end
end Zd
namespace Zd
open PySem PySem.Spec L2
open PyProof.Rows (envOfC)
/-! ### promises over data: a def that changes nothing that stood -/
abbrev PSp := List D → (DV → Prop) → (Exn → Prop) → Prop
def spP (K : PySem.W.Frag) (n : Nat) (S : PSp) : Sp := fun vs H Q E => vs.length = n ∧ ∃ I ds Ψ Ξ, Le I H ∧ Reps K I ds vs ∧ S ds Ψ Ξ ∧ (∀ r v I' H', Ψ r → Res K I H I' H' r v → Q v H') ∧
  (∀ x cls d I' H', Ξ x → Le I I' → (∀ a o, H a = some o → H' a = some o) → (∀ a o, H a = some o → I a = none → I' a = none) → Le I' H' → ExnR K I' H' cls d x → E cls d H')
/-- a def that changes its first argument alone -/
abbrev MSp := Cell → List D → (DV → Cell → Prop) → (Exn → Cell → Prop) → Prop
structure ResM (K : PySem.W.Frag) (I H I' H' : Hp) (p : Addr) (c : Cell) : Prop where
  le : Le I I'
  keep : ∀ a o, a ≠ p → H a = some o → H' a = some o ∧ (I a = none → I' a = none)
  ip : I' p = none
  cell : CellR K I' H' p c
  sub : Le I' H'
def relM (K : PySem.W.Frag) (H I' H' : Hp) (p : Addr) (v : V) : DV → Prop
  | .no => False
  | .val d => Rep K I' d v
  | .own q c => v = .ref q ∧ q ≠ p ∧ H q = none ∧ I' q = none ∧ CellR K I' H' q c
def spM (K : PySem.W.Frag) (n : Nat) (S : MSp) : Sp := fun vs H Q E => vs.length = n ∧ ∃ p vs' I c ds Ψ Ξ, vs = .ref p :: vs' ∧ Le I H ∧ I p = none ∧ CellR K I H p c ∧ Reps K I ds vs' ∧ S c ds Ψ Ξ ∧
  (∀ r c' v I' H', Ψ r c' → ResM K I H I' H' p c' → relM K H I' H' p v r → Q v H') ∧ (∀ x c' cls d I' H', Ξ x c' → ResM K I H I' H' p c' → ExnR K I' H' cls d x → E cls d H')
section
variable {P : Program} {w : World} {K : PySem.W.Frag} {mg : Str → Option Value} {base : Heap}
abbrev fX (P : Program) (w : World) (K : PySem.W.Frag) (mg : Str → Option Value) (base : Heap) (N : List Str) (qual : Str) (st : Stmt) (f : Addr) (cdv : Value) (A : Around) (outer : List PySem.Env) (s : Shared) (H : Hp) (E : XK) : Cx :=
  cxOf (L2N.CX P w) P w K mg base N qual (defScope st) f cdv A outer s H E
abbrev fW (E : XK) : WX := fun cls d _ H => E cls d H
theorem takes_f {N : List Str} {qual : Str} {st : Stmt} {f : Addr} {cdv : Value} {A : Around} {outer : List PySem.Env} {s : Shared} {H : Hp} {E : XK} : L2N.Takes (fX P w K mg base N qual st f cdv A outer s H E) (fW E) := L2N.takes_of rfl rfl rfl rfl
theorem passes_f {N : List Str} {qual : Str} {st : Stmt} {f : Addr} {cdv : Value} {A : Around} {outer : List PySem.Env} {s : Shared} {H : Hp} {E : XK} :
    PassesOwn (model P w) (fX P w K mg base N qual st f cdv A outer s H E).A (fX P w K mg base N qual st f cdv A outer s H E).env (fX P w K mg base N qual st f cdv A outer s H E).xe := passes_of rfl
theorem start_env {I H : Hp} {ds : List D} {vs : List V} {N : List Str} (s : Le I H) (r : Reps K I ds vs) (hl : vs.length ≤ N.length) : EnvR K I H (L2.start N vs) (ds.map .val ++ List.replicate (N.length - ds.length) .no) := by
  have lv : vs.length = ds.length := r.length
  have get : ∀ (i : Nat) y, (ds.map DV.val ++ List.replicate (N.length - ds.length) DV.no)[i]? = some y → y = .no ∨ ∃ d, ds[i]? = some d ∧ y = .val d := fun i y e => by
    by_cases hi : i < ds.length
    · rw [List.getElem?_append_left (by simpa using hi), List.getElem?_map] at e
      rw [List.getElem?_eq_getElem hi] at e
      simp at e
      exact .inr ⟨_, List.getElem?_eq_getElem hi, e.symm⟩
    · rw [List.getElem?_append_right (by simpa using hi)] at e
      have := List.mem_of_getElem? e
      exact .inl (List.eq_of_mem_replicate this)
  refine ⟨s, by simp [L2.start, lv], fun i d e => ?_, fun i p c e => ?_, fun i j p c c' e => ?_⟩
  · rcases get i _ e with h | ⟨d', h1, h2⟩
    · cases h
    · cases h2
      obtain ⟨v, g1, g2⟩ := r.get h1
      refine ⟨v, ?_, g2⟩
      unfold L2.start
      have hi : i < vs.length := (List.getElem?_eq_some_iff.mp g1).1
      rw [List.getElem?_append_left (by simpa using hi), List.getElem?_map, g1]
      rfl
  · rcases get i _ e with h | ⟨d', h1, h2⟩
    · cases h
    · cases h2
  · rcases get i _ e with h | ⟨d', h1, h2⟩
    · cases h
    · cases h2
theorem no_own {ds : List D} {k : Nat} {a : Addr} : ¬ Own (ds.map .val ++ List.replicate k .no) a := fun ⟨i, c, e⟩ => by
  by_cases hi : i < ds.length
  · rw [List.getElem?_append_left (by simpa using hi), List.getElem?_map, List.getElem?_eq_getElem hi] at e
    simp at e
  · rw [List.getElem?_append_right (by simpa using hi)] at e
    have := List.eq_of_mem_replicate (List.mem_of_getElem? e)
    cases this
/-- what may come back -/
def okR : DV → Prop → Prop
  | .no, _ => False
  | .val _, p => p
  | .own _ _, p => p
abbrev pE (Ψ : DV → Prop) : DE := ⟨fun _ => Ψ (.val .non), fun r _ => okR r (Ψ r), fun _ => False, fun _ => False⟩
/-- a def that may raise: what leaves it has no context -/
theorem okN {x qual : Str} {st : Stmt} {f : Addr} {fd : FuncData} {N ps : List Str} {k : Nat} {sp : Sp} (D : Fun K x qual st f fd) (Sc : FnScope N ps (defScope st)) (hl : ∀ vs H Q E, sp vs H Q E → vs.length = ps.length)
    (go : ∀ (cdv : Value) (A : Around) (outer : List PySem.Env) (s : Shared) (H : Hp) (vs : List V) (Q : VK) (E : XK), Room k (A.deeper (envOfC qual (defScope st) s.heap.objs.size f cdv)) → sp vs H Q E →
      ∃ t, PSs (fX P w K mg base N qual st f cdv A outer s H E) (defBody st) t ∧ t { nx := fun _ H' => Q .non H', rt := Q } (L2.start N vs) H) : FnOk P w K mg base (L2N.CX P w) (k + 1) f fd ps sp := by
  obtain ⟨_, _, _, _, _, _, cd, _, _, rfl, at_, code⟩ := D.ex
  exact fn_of at_ code Sc hl fun A outer s H vs Q E room want => go cd A outer s H vs Q E room want
/-- a def's body over its arguments -/
theorem body_P {X : Cx} {body : List Stmt} {N : List Str} {n : Nat} {S : PSp} {vs : List V} {H : Hp} {Q : VK} {E : XK} (h : spP X.K n S vs H Q E) (hN : n ≤ N.length)
    (hd : ∀ (ds : List D) (Ψ : DV → Prop) (Ξ : Exn → Prop), ds.length = n → S ds Ψ Ξ → dsb ⟨X, fW E, fun x _ => Ξ x⟩ body (ds.map .val ++ List.replicate (N.length - ds.length) .no) (pE Ψ)) :
    wb X body { nx := fun _ H' => Q .non H', rt := Q } (L2.start N vs) H := by
  obtain ⟨hl, I, ds, Ψ, Ξ, sb, rp, hS, hq, he⟩ := h
  have ld : ds.length = n := by rw [← rp.length, hl]
  refine hd ds Ψ Ξ ld hS _ I H _ (start_env sb rp (by omega)) ⟨fun σ' δ' I' H' a y g => ?_, fun r v σ' δ' I' H' a y g => ?_, fun σ' δ' I' H' a => a.elim, fun σ' δ' I' H' a => a.elim, ?_⟩
  · exact hq (.val .non) .non I' H' a ⟨g.le, fun a o h => by
      cases hi : I a with
      | some u => rw [sb _ _ hi] at h; cases h; exact y.sub _ _ (g.le _ _ hi)
      | none => exact (g.keep a o h hi no_own).1, fun a o h hi => (g.keep a o h hi no_own).2, y.sub, rfl⟩
  · have nr : r ≠ .no := fun e => by rw [e] at a; exact a
    have a : Ψ r := by
      cases r with
      | no => exact absurd rfl nr
      | val d => exact a
      | own p c => exact a
    refine hq r v I' H' a ⟨g.le, fun a o h => ?_, fun a o h hi => (g.keep a o h hi no_own).2, y.sub, ?_⟩
    · cases hi : I a with
      | some u => rw [sb _ _ hi] at h; cases h; exact y.sub _ _ (g.le _ _ hi)
      | none => exact (g.keep a o h hi no_own).1
    · cases r with
      | no => exact absurd rfl nr
      | val d =>
        obtain ⟨u, h1, h2⟩ := y.head_val
        cases h1
        exact h2
      | own p c =>
        obtain ⟨h1, h2, h3, h4⟩ := y.head_own
        cases h1
        refine ⟨rfl, h2, ?_, h3⟩
        rcases g.new p ⟨0, c, rfl⟩ with h | h
        · exact absurd h no_own
        · exact h
  · intro x δ' σ' I' H' cls d a y g ex
    exact he x cls d I' H' a g.le (fun a o h => by
      cases hi : I a with
      | some u => rw [sb _ _ hi] at h; cases h; exact y.sub _ _ (g.le _ _ hi)
      | none => exact (g.keep a o h hi no_own).1) (fun a o h hi => (g.keep a o h hi no_own).2) y.sub ex
theorem fn_P {x qual : Str} {st : Stmt} {f : Addr} {fd : FuncData} {N ps : List Str} {k : Nat} {S : PSp} (F : Fun K x qual st f fd) (Sc : FnScope N ps (defScope st)) (hN : ps.length ≤ N.length)
    (hbody : ∀ (cdv : Value) (A : Around) (outer : List PySem.Env) (s : Shared) (H : Hp) (E : XK) (ds : List D) (Ψ : DV → Prop) (Ξ : Exn → Prop), Room k (A.deeper (envOfC qual (defScope st) s.heap.objs.size f cdv)) → ds.length = ps.length → S ds Ψ Ξ →
      dsb ⟨fX P w K mg base N qual st f cdv A outer s H E, fW E, fun x _ => Ξ x⟩ (defBody st) (ds.map .val ++ List.replicate (N.length - ds.length) .no) (pE Ψ)) : FnOk P w K mg base (L2N.CX P w) (k + 1) f fd ps (spP K ps.length S) := by
  refine okN F Sc (fun vs H Q E h => h.1) (fun cdv A outer s H vs Q E hr h => ⟨_, PSs.of, body_P h hN fun ds Ψ Ξ ld hS => hbody cdv A outer s H E ds Ψ Ξ hr ld hS⟩)
end
end Zd
namespace Zd
open PySem PySem.Spec L2
open PyProof.Rows (envOfC)
section
variable {P : Program} {w : World} {K : PySem.W.Frag} {mg : Str → Option Value} {base : Heap}
/-- less is said of a thing -/
inductive Weak : Cell → Cell → Prop where
  | refl {c : Cell} : Weak c c
  | ab {ds : List D} {P : List D → Prop} (h : P ds) : Weak (.lst ds) (.ab P)
theorem Weak.cell {K : PySem.W.Frag} {I H : Hp} {p : Addr} {c c' : Cell} (w : Weak c c') (h : CellR K I H p c) : CellR K I H p c' := by
  cases w with
  | refl => exact h
  | ab hp =>
    obtain ⟨xs, h1, h2⟩ := h
    exact ⟨_, xs, h1, h2, hp⟩
/-- behind a def that changes its first argument alone: that argument is where it was -/
abbrev mE (p : Addr) (Ψ : DV → Cell → Prop) : DE := ⟨fun δ' => ∃ c' c'', δ'[0]? = some (.own p c') ∧ Weak c' c'' ∧ Ψ (.val .non) c'', fun r δ' => okR r (∃ c' c'', δ'[0]? = some (.own p c') ∧ Weak c' c'' ∧ Ψ r c''), fun _ => False, fun _ => False⟩
theorem own_start {p : Addr} {c : Cell} {ds : List D} {k : Nat} {a : Addr} (h : Own (.own p c :: (ds.map .val ++ List.replicate k .no)) a) : a = p := by
  obtain ⟨i, c', e⟩ := h
  cases i with
  | zero => simp at e; exact e.1.symm
  | succ i => exact absurd ⟨i, c', by simpa using e⟩ no_own
theorem fn_M {x qual : Str} {st : Stmt} {f : Addr} {fd : FuncData} {N ps : List Str} {k : Nat} {S : MSp} (F : Fun K x qual st f fd) (Sc : FnScope N ps (defScope st)) (hN : ps.length ≤ N.length)
    (hbody : ∀ (cdv : Value) (A : Around) (outer : List PySem.Env) (s : Shared) (H : Hp) (E : XK) (p : Addr) (c : Cell) (ds : List D) (Ψ : DV → Cell → Prop) (Ξ : Exn → Cell → Prop), Room k (A.deeper (envOfC qual (defScope st) s.heap.objs.size f cdv)) → ds.length + 1 = ps.length → S c ds Ψ Ξ →
      dsb ⟨fX P w K mg base N qual st f cdv A outer s H E, fW E, fun x δ' => ∃ c' c'', δ'[0]? = some (.own p c') ∧ Weak c' c'' ∧ Ξ x c''⟩ (defBody st) (.own p c :: (ds.map .val ++ List.replicate (N.length - (ds.length + 1)) .no)) (mE p Ψ)) : FnOk P w K mg base (L2N.CX P w) (k + 1) f fd ps (spM K ps.length S) := by
  refine okN F Sc (fun vs H Q E h => h.1) (fun cdv A outer s H vs Q E hr h => ?_)
  obtain ⟨hl, p, vs', I, c, ds, Ψ, Ξ, rfl, sb, ip, hc, rp, hS, hq, he⟩ := h
  have ld : ds.length + 1 = ps.length := by rw [← rp.length]; simpa using hl
  refine ⟨_, PSs.of, ?_⟩
  have y0 : EnvR K I H (L2.start N (.ref p :: vs')) (.own p c :: (ds.map .val ++ List.replicate (N.length - (ds.length + 1)) .no)) := by
    cases N with
    | nil =>
      have hN' : ps.length ≤ 0 := hN
      omega
    | cons n0 N' =>
      have e1 : L2.start (n0 :: N') (.ref p :: vs') = some (.ref p) :: L2.start N' vs' := by
        unfold L2.start
        simp
      have e2 : (n0 :: N').length - (ds.length + 1) = N'.length - ds.length := by simp
      rw [e1, e2]
      have y := start_env (N := N') sb rp (by
        have h1 := rp.length
        have h2 : ps.length ≤ N'.length + 1 := hN
        omega)
      exact y.cons_own no_own ip hc
  have fin : ∀ {δ' : Env} {c' c'' : Cell} {σ' : St} {I' H' : Hp}, δ'[0]? = some (.own p c') → Weak c' c'' → EnvR K I' H' σ' δ' → Goes (Own (.own p c :: (ds.map .val ++ List.replicate (N.length - (ds.length + 1)) .no))) (Own δ') I H I' H' → ResM K I H I' H' p c'' := fun {δ' c' c'' σ' I' H'} e wk y g => by
    obtain ⟨_, h2, h3⟩ := y.own 0 p c' e
    refine ⟨g.le, fun a o hne h => ?_, h2, wk.cell h3, y.sub⟩
    cases hi : I a with
    | some u =>
      rw [sb _ _ hi] at h; cases h
      exact ⟨y.sub _ _ (g.le _ _ hi), fun z => by cases z⟩
    | none =>
      obtain ⟨z1, z2⟩ := g.keep a o h hi fun ho => hne (own_start ho)
      exact ⟨z1, fun _ => z2⟩
  refine hbody cdv A outer s H E p c ds Ψ Ξ hr ld hS _ I H _ y0 ⟨fun σ' δ' I' H' a y g => ?_, fun r v σ' δ' I' H' a y g => ?_, fun σ' δ' I' H' a => a.elim, fun σ' δ' I' H' a => a.elim, ?_⟩
  · obtain ⟨c', c'', e, wk, a⟩ := a
    exact hq (.val .non) c'' .non I' H' a (fin e wk y g) rfl
  · have nr : r ≠ .no := fun e => by rw [e] at a; exact a
    have a : ∃ c' c'', δ'[0]? = some (.own p c') ∧ Weak c' c'' ∧ Ψ r c'' := by
      cases r with
      | no => exact absurd rfl nr
      | val d => exact a
      | own p c => exact a
    obtain ⟨c', c'', e, wk, a⟩ := a
    refine hq r c'' v I' H' a (fin e wk y.tail (g.sub fun a h => h.tail)) ?_
    cases r with
    | no => exact absurd rfl nr
    | val d =>
      obtain ⟨u, h1, h2⟩ := y.head_val
      cases h1
      exact h2
    | own q cq =>
      obtain ⟨h1, h2, h3, h4⟩ := y.head_own
      cases h1
      have hne : q ≠ p := fun z => h4 ⟨0, c', by rw [z]; exact e⟩
      refine ⟨rfl, hne, ?_, h2, h3⟩
      rcases g.new q ⟨0, cq, rfl⟩ with h | h
      · exact absurd (own_start h) hne
      · exact h
  · intro x δ' σ' I' H' cls d ⟨c', c'', e, wk, a⟩ y g ex
    exact he x c'' cls d I' H' a (fin e wk y g) ex
end

/-! ### calls -/
theorem args_vals {K : PySem.W.Frag} {I : Hp} {σ : St} : ∀ {ds : List D} {vs : List V}, ArgsR K I σ (ds.map Arg.v) vs → Reps K I ds vs
  | [], _, h => h
  | d :: ds, _, h => by
    obtain ⟨u, r, h1, h2, h3⟩ := h
    exact ⟨u, r, h1, h2, args_vals h3⟩
mutual
def flatX : Exn → Bool
  | .mk _ _ ds => flatDs ds
  | .plain _ => true
end
section
variable {G : Gx} {δ : Env} {E : DE} {Φ : DV → Env → Prop} {pos : Pos} {k j : Nat} {f : Addr} {fd : FuncData} {ps : List Str} {x : Str} {p : Pos}
/-- a call, however it is read -/
theorem de_callQ {S : PSp} {n : Nat} {ce : Expr} {es : List Expr} (pe : PE G.X ce (tCallS (spP G.X.K n S) (fun σ => WE G.W σ) (wes G.X es)))
    (h : dgs G es δ fun as δ1 => ∃ ds b, ArgsD δ1 as ds b ∧ ds.length = n ∧ S ds (fun r => (b = true → flatV r = true) ∧ Φ r δ1) (fun x => (b = true → flatX x = true) ∧ G.Ξ x δ1)) : de G ce δ Φ := fun σ I H y fu Q q =>
  pe.to (h σ I H y fu _ fun as δ1 vs I1 H1 ⟨ds, b, hd, hl, hS⟩ y1 ar g => by
    obtain ⟨I2, bo, rp, hb⟩ := borrow y1 ar hd
    refine ⟨by rw [rp.length]; exact hl, I2, ds, _, _, bo.sub, rp, hS, fun r v I' H' ⟨hf, hΦ⟩ re => ?_, fun ex cls d I' H' ⟨hf, hx⟩ le hh nw sb xr => ?_⟩
    · obtain ⟨I'', z, g'⟩ := unlent y1 bo hb hf re
      exact q r δ1 v I'' H' hΦ z (g.trans g' y1.sub)
    · have fut := fu.go g y1.sub
      cases b with
      | false =>
        cases hb rfl
        exact fut ex δ1 σ I' H' cls d hx (y1.grow le sb hh nw) (Goes.grow le hh nw) xr
      | true =>
        obtain ⟨I'', z, g'⟩ := unlent (r := .val .non) (v := .non) (b := true) y1 bo hb (fun _ => rfl) ⟨le, hh, nw, sb, rfl⟩
        refine fut ex δ1 σ (unlend I1 I2 I') H' cls d hx ?_ ?_ ?_
        · exact y1.grow (unlend_low (bo.le.trans le)) (unlend_le sb) hh fun a o h i => by
            by_cases hc : I1 a = none ∧ I2 a ≠ none
            · exact unlend_none hc
            · rw [unlend_of hc]
              refine nw a o h ?_
              cases e : I2 a with
              | none => rfl
              | some u => exact absurd ⟨i, by rw [e]; simp⟩ hc
        · exact Goes.grow (unlend_low (bo.le.trans le)) hh fun a o h i => by
            by_cases hc : I1 a = none ∧ I2 a ≠ none
            · exact unlend_none hc
            · rw [unlend_of hc]
              refine nw a o h ?_
              cases e : I2 a with
              | none => rfl
              | some u => exact absurd ⟨i, by rw [e]; simp⟩ hc
        · cases ex with
          | plain c => exact xr
          | mk C ks ds =>
            obtain ⟨h1, dx, fs, h2, h3, h4, h5⟩ := xr
            refine ⟨h1, dx, fs, h2, ?_, h4, flat_reps bo le ds _ (hf rfl) h5⟩
            have nb : ¬ (I1 dx = none ∧ I2 dx ≠ none) := fun ⟨n1, n2⟩ => by
              cases e : I2 dx with
              | none => exact n2 e
              | some u =>
                have nt := (bo.new dx u n1 e).2
                have u2 := le _ _ e
                rw [h3] at u2
                cases u2
                exact nt
            rw [unlend_of nb]
            exact h3)
/-- f(..): a def that changes nothing -/
theorem de_callP {S : PSp} {e : Expr} {es : List Expr} (F : FnOk G.X.prog G.X.w G.X.K G.X.mg G.X.base (L2N.CX G.X.prog G.X.w) j f fd ps (spP G.X.K ps.length S)) (hm : G.X.mg x = some (.ref f)) (hk : PySem.W.keepIn G.X.K (.ref f) = true) (hb : Binds G.X.K fd ps [])
    (h : dgs G (e :: es) δ fun as δ1 => ∃ ds b, ArgsD δ1 as ds b ∧ ds.length = ps.length ∧ S ds (fun r => (b = true → flatV r = true) ∧ Φ r δ1) (fun x => (b = true → flatX x = true) ∧ G.Ξ x δ1))
    (hr : Room k G.X.A) (hj : j ≤ k) (tk : L2N.Takes G.X G.W) (hg : Gl G.X x) (ha : PA G.X (e :: es) (wes G.X (e :: es)))
    (hdb : (x == ("__debug__" : Str)) = false := by decide) (he : starEach (e :: es) G.X.env = (false, eval e G.X.env) :: starEach es G.X.env := by rfl) (hpl : (backTo pos (starEach es G.X.env)).any (·.1) = false := by rfl) :
    de G (.Call (.Name x p) (e :: es) [] pos) δ Φ :=
  de_callQ (pe_callS (E := fun σ => WE G.W σ) F (hr.mono hj) hg hm hk hb (fun σ => L2N.passAt tk σ) ha hdb he hpl) h
/-- f(x, ..): x holds a thing of one's own, which f changes -/
theorem de_callM {S : MSp} {i : Nat} {y : Str} {py : Pos} {es : List Expr} {q : Addr} {c0 : Cell} (F : FnOk G.X.prog G.X.w G.X.K G.X.mg G.X.base (L2N.CX G.X.prog G.X.w) j f fd ps (spM G.X.K ps.length S)) (hm : G.X.mg x = some (.ref f)) (hk : PySem.W.keepIn G.X.K (.ref f) = true) (hb : Binds G.X.K fd ps [])
    (hi : Nth G.X.N i y) (hδ : δ[i]? = some (.own q c0))
    (h : dgs G es δ fun as δ1 => ∃ c ds, δ1[i]? = some (.own q c) ∧ as = ds.map Arg.v ∧ ds.length + 1 = ps.length ∧ S c ds (fun r c' => okR r (Put δ1 i (.own q c') (Φ r))) (fun x c' => Put δ1 i (.own q c') (G.Ξ x)))
    (hr : Room k G.X.A) (hj : j ≤ k) (tk : L2N.Takes G.X G.W) (hg : Gl G.X x) (hv : Vis G.X.env.scope y) (ha : PA G.X (.Name y py :: es) (wes G.X (.Name y py :: es))) (hd : (y == ("__debug__" : Str)) = false := by decide) (hcd : (y == ("__classdict__" : Str)) = false := by decide)
    (hdb : (x == ("__debug__" : Str)) = false := by decide) (he : starEach (.Name y py :: es) G.X.env = (false, eval (.Name y py) G.X.env) :: starEach es G.X.env := by rfl) (hpl : (backTo pos (starEach es G.X.env)).any (·.1) = false := by rfl) :
    de G (.Call (.Name x p) (.Name y py :: es) [] pos) δ Φ := fun σ I H z fu Q k' =>
  (pe_callS (E := fun σ => WE G.W σ) F (hr.mono hj) hg hm hk hb (fun σ => L2N.passAt tk σ) ha hdb he hpl).to (by
    obtain ⟨h1, h2, h3⟩ := z.own i q c0 hδ
    refine we_slot hi hv hd hcd h1 ?_
    refine h σ I H z fu _ fun as δ1 vs I1 H1 ⟨c, ds, hc, has, hl, hS⟩ y1 ar g => ?_
    subst has
    have rp := args_vals ar
    obtain ⟨g1, g2, g3⟩ := y1.own i q c hc
    have upd1 : ∀ {I' H' : Hp} {c' : Cell}, ResM G.X.K I1 H1 I' H' q c' → EnvR G.X.K I' H' σ (δ1.set i (.own q c')) ∧ Goes (Own δ1) (Own (δ1.set i (.own q c'))) I1 H1 I' H' := fun {I' H' c'} re => by
      have hlt : i < δ1.length := (List.getElem?_eq_some_iff.mp hc).1
      have key : ∀ (j : Nat) (y : DV), (δ1.set i (.own q c'))[j]? = some y → (j = i ∧ y = .own q c') ∨ (j ≠ i ∧ δ1[j]? = some y) := fun j y e => by
        by_cases hj : j = i
        · subst hj
          rw [List.getElem?_set_self hlt] at e
          exact .inl ⟨rfl, (Option.some.inj e).symm⟩
        · rw [List.getElem?_set_ne (Ne.symm hj)] at e
          exact .inr ⟨hj, e⟩
      refine ⟨⟨re.sub, by simp [y1.len], fun j d e => ?_, fun j a e' e => ?_, fun j l a c1 c2 e1 e2 => ?_⟩, re.le, fun a o h i np => ?_, fun a ha => .inl ((own_upd hc).mp ha)⟩
      · rcases key j _ e with ⟨_, z⟩ | ⟨_, z⟩
        · cases z
        · obtain ⟨v, w1, w2⟩ := y1.val j d z
          exact ⟨v, w1, Rep.mono re.le _ _ w2⟩
      · rcases key j _ e with ⟨z1, z2⟩ | ⟨hj, z⟩
        · cases z2
          rw [z1]
          exact ⟨g1, re.ip, re.cell⟩
        · obtain ⟨w1, w2, w3⟩ := y1.own j a e' z
          have hne : a ≠ q := fun y => by
            rw [y] at z
            exact hj (y1.inj j i q _ _ z hc)
          obtain ⟨o, ho⟩ := w3.there
          exact ⟨w1, (re.keep a o hne ho).2 w2, w3.mono re.le fun o ho => (re.keep a o hne ho).1⟩
      · rcases key j _ e1 with ⟨y1', y2⟩ | ⟨hj, y⟩ <;> rcases key l _ e2 with ⟨z1, z2⟩ | ⟨hk', z⟩
        · rw [y1', z1]
        · cases y2
          exact absurd (y1.inj l i q _ _ z hc) hk'
        · cases z2
          exact absurd (y1.inj j i q _ _ y hc) hj
        · exact y1.inj j l a c1 c2 y z
      · have hne : a ≠ q := fun e => np ⟨_, c, by rw [e]; exact hc⟩
        obtain ⟨z1, z2⟩ := re.keep a o hne h
        exact ⟨z1, z2 i⟩
    refine ⟨by simp [rp.length]; exact hl, q, vs, I1, c, ds, _, _, rfl, y1.sub, g2, g3, rp, hS, fun r c' v I' H' hΦ re rl => ?_, fun ex c' cls d I' H' hx re xr => ?_⟩
    · obtain ⟨y2, gg⟩ := upd1 re
      have g12 := g.trans gg y1.sub
      cases r with
      | no => exact hΦ.elim
      | val d => exact k' _ _ v I' H' hΦ (y2.cons_val rl) (g12.sub fun a h => own_cons_val.mp h)
      | own b cb =>
        obtain ⟨e1, e2, e3, e4, e5⟩ := rl
        subst e1
        have nO : ¬ Own (δ1.set i (.own q c')) b := fun ho => by
          obtain ⟨jj, cc, ee⟩ := (own_upd hc).mp ho
          obtain ⟨_, _, w3⟩ := y1.own jj b cc ee
          obtain ⟨o, ho⟩ := w3.there
          rw [e3] at ho; cases ho
        refine k' _ _ _ I' H' hΦ (y2.cons_own nO e4 e5) ((g.trans ⟨gg.le, gg.keep, fun a ha => ?_⟩ y1.sub))
        obtain ⟨jj, cc, ee⟩ := ha
        cases jj with
        | zero =>
          simp at ee
          obtain ⟨rfl, rfl⟩ := ee
          exact .inr e3
        | succ jj => exact gg.new a ⟨jj, cc, by simpa using ee⟩
    · obtain ⟨y2, gg⟩ := upd1 re
      exact (fu.go g y1.sub) ex _ σ I' H' cls d hx y2 gg xr)
/-- a built-in, by its name -/
theorem de_callB {id : String} {e : Expr} {es : List Expr} (hm : G.X.mg x = none) (hv : bootBuiltins x = some (.builtin id)) (h : dgs G (e :: es) δ (Asked G (wcall G.X (.builtin id)) Φ)) (hg : Gl G.X x) (ha : PA G.X (e :: es) (wes G.X (e :: es)))
    (hn : x ≠ "__name__" := by decide) (hdb : (x == ("__debug__" : Str)) = false := by decide)
    (he : starEach (e :: es) G.X.env = (false, eval e G.X.env) :: starEach es G.X.env := by rfl) (hpl : (backTo pos (starEach es G.X.env)).any (·.1) = false := by rfl) : de G (.Call (.Name x p) (e :: es) [] pos) δ Φ :=
  de_R (fun σ H Q h => (pe_callB CallR.of hg hm hv ha hn hdb he hpl).to h) h
theorem de_callTy {T : String} {e : Expr} {es : List Expr} (hm : G.X.mg x = none) (hv : bootBuiltins x = some (.type T)) (h : dgs G (e :: es) δ (Asked G (wcall G.X (.type T)) Φ)) (hg : Gl G.X x) (ha : PA G.X (e :: es) (wes G.X (e :: es)))
    (hn : x ≠ "__name__" := by decide) (hdb : (x == ("__debug__" : Str)) = false := by decide)
    (he : starEach (e :: es) G.X.env = (false, eval e G.X.env) :: starEach es G.X.env := by rfl) (hpl : (backTo pos (starEach es G.X.env)).any (·.1) = false := by rfl) : de G (.Call (.Name x p) (e :: es) [] pos) δ Φ :=
  de_R (fun σ H Q h => (pe_callTy CallR.of hg hm hv ha hn hdb he hpl).to h) h
/-- the name of a built-in class, as a value -/
theorem de_bltn {T : String} (hm : G.X.mg x = none) (hv : bootBuiltins x = some (.type T)) (h : Φ (.val (.raw (.ty T))) δ) (hg : Gl G.X x) (hn : x ≠ "__name__" := by decide) (hdb : (x == ("__debug__" : Str)) = false := by decide) : de G (.Name x pos) δ Φ :=
  de_const (pe_bltn hg hm hv (v := .ty T) rfl hn hdb) (d := .raw (.ty T)) (fun _ => rfl) h
/-- list(range(..)) -/
theorem de_listRg1 {a : Expr} {p' pos' : Pos} (h : dgs G [a] δ fun as δ1 => ∃ n : Int, as = [.v (.int n)] ∧ 0 ≤ n ∧ n ≤ 16777216 ∧ ∀ q, Φ (.own q (.lst ((List.range n.toNat).map fun i : Nat => D.int (i : Int)))) δ1)
    (hc : G.X.calm = true) (hg : Gl G.X "list") (hm : G.X.mg "list" = none) (hg' : Gl G.X "range") (hm' : G.X.mg "range" = none) (na : starEach [a] G.X.env = (false, eval a G.X.env) :: starEach [] G.X.env := by rfl)
    (na' : starEach [.Call (.Name "range" p') [a] [] pos'] G.X.env = (false, eval (.Call (.Name "range" p') [a] [] pos') G.X.env) :: starEach [] G.X.env := by rfl) :
    de G (.Call (.Name "list" p) [.Call (.Name "range" p') [a] [] pos'] [] pos) δ Φ := fun σ I H y f Q q =>
  (pe_listRg hc hg hm (prg_1 hg' hm' PE.of na) na').to (we_mono (h σ I H y f (fun vs H1 => ∃ v, vs = [v] ∧ (fun x H1 => ∃ n, x = V.int n ∧ (fun a b H1 => RgOk a b ∧ ∀ q, H1 q = none → Q (.ref q) (upd H1 q (.lst (rgV a b)))) 0 n H1) v H1) fun as δ1 vs I1 H1 ⟨n, e, h0, h1, hΦ⟩ y1 ar g => by
    subst e
    obtain ⟨u, r, rfl, e1, e2⟩ := ar
    cases (show _ = _ from e1)
    cases (show _ = _ from e2)
    refine ⟨_, rfl, n, rfl, RgOk.of_le (Int.le_refl _) h1 (by decide) h0, fun b hb => ?_⟩
    have rp : Reps G.X.K I1 ((List.range n.toNat).map fun i : Nat => D.int (i : Int)) (rgV 0 n) := by
      have e : rgV 0 n = ((List.range n.toNat).map fun i : Nat => (i : Int)).map V.int := by
        unfold rgV
        rw [List.map_map, Int.sub_zero]
        refine List.map_congr_left fun i _ => ?_
        show V.int ((0 : Int) + (i : Int)) = V.int (i : Int)
        rw [Int.zero_add]
      have e' : ((List.range n.toNat).map fun i : Nat => D.int (i : Int)) = ((List.range n.toNat).map fun i : Nat => (i : Int)).map D.int := by
        rw [List.map_map]; rfl
      rw [e, e']
      exact Reps.of_ints _
    obtain ⟨I2, z, g2⟩ := unlent (b := false) y1 (Bor.refl y1.sub) (fun _ => rfl) (fun e => by cases e) (Res.own (c := .lst ((List.range n.toNat).map fun i : Nat => D.int (i : Int))) y1.sub hb ⟨_, upd_same, rp⟩)
    exact q _ δ1 _ I2 _ (hΦ b) z (g.trans g2 y1.sub)) fun v H1 ⟨u, e, h⟩ => by
      cases e
      exact h)
/-! ### a list of one's own changes -/
theorem de_append {i : Nat} {y : Str} {py apos : Pos} {q : Addr} {c0 : Cell} {e : Expr} (hi : Nth G.X.N i y) (hδ : δ[i]? = some (.own q c0))
    (h : dgs G [e] δ fun as δ1 => ∃ d ds, as = [.v d] ∧ δ1[i]? = some (.own q (.lst ds)) ∧ ds.length < sizeLine ∧ Put δ1 i (.own q (.lst (ds ++ [d]))) (Φ (.val .non))) (hq : ∃ ds, c0 = .lst ds) (hv : Vis G.X.env.scope y)
    (hd : (y == ("__debug__" : Str)) = false := by decide) (hcd : (y == ("__classdict__" : Str)) = false := by decide)
    (hbase : attributeBase (.Name y py) "append" G.X.env (eval (.Name y py) G.X.env) = eval (.Name y py) G.X.env := by rfl)
    (hfew : ((backTo pos (starEach [e] G.X.env)).all (fun x => !x.1) && (backToKw pos (keywordEach [] G.X.env)).all (fun x => x.1.isSome) && decide ([e].length + ([] : List Keyword).length + (if ([] : List Keyword).isEmpty then 0 else 1) < 30)) = true := by rfl)
    (hline : (apos.endLine == pos.line) = true := by rfl) (hs : starEach [e] G.X.env = (false, eval e G.X.env) :: starEach [] G.X.env := by rfl) (hplain : (backTo pos (starEach [] G.X.env)).any (·.1) = false := by rfl) :
    de G (.Call (.Attribute (.Name y py) "append" apos) [e] [] pos) δ Φ := fun σ I H z f Q k =>
  (pe_bm PySem.F.plainAttrs_list PySem.F.slot_list_append PySem.F.type_list_append mt_append PE.of (pa_cons PE.of pa_nil hs) hbase hfew hline hs hplain).to (by
    obtain ⟨h1, h2, h3⟩ := z.own i q c0 hδ
    obtain ⟨ds0, rfl⟩ := hq
    refine we_slot hi hv hd hcd h1 ⟨.inl ⟨rfl, ?_⟩, ?_⟩
    · obtain ⟨xs, g1, _⟩ := h3
      exact ⟨xs, SqL.of g1⟩
    · refine we_mono (h σ I H z f (fun vs H1 => ∃ v, vs = [v] ∧ rAppend (.ref q) [v] H1 Q) fun as δ1 vs I1 H1 ⟨d, ds, has, hc, hz, hΦ⟩ y1 ar g => ?_) fun v H1 ⟨u, e, h⟩ => by
        cases e
        exact h
      subst has
      obtain ⟨u, r, rfl, e1, e2⟩ := ar
      cases (show _ = _ from e2)
      have e1 : Rep G.X.K I1 d u := e1
      obtain ⟨g1, g2, g3⟩ := y1.own i q _ hc
      obtain ⟨xs, x1, x2⟩ := g3
      refine ⟨u, rfl, q, xs, u, rfl, rfl, x1, by rw [x2.length]; exact hz, ?_⟩
      have y2 := y1.upd (c' := .lst (ds ++ [d])) (o := .lst (xs ++ [u])) hc ⟨_, upd_same, x2.append (Reps.cons e1 Reps.nil)⟩
      exact k (.val .non) _ .non I1 _ hΦ (y2.cons_val rfl) ((g.trans (Goes.upd y1 hc) y1.sub).sub fun a h => own_cons_val.mp h))
/-- x[i] = e -/
theorem ds_setL {i : Nat} {y : Str} {py ps' : Pos} {q : Addr} {c0 : Cell} {e ix : Expr} (hi : Nth G.X.N i y) (hδ : δ[i]? = some (.own q c0))
    (h : de G e δ fun r δ0 => ∃ d, Fast r d ∧ (∃ c1, δ0[i]? = some (.own q c1)) ∧ dgs G [ix] δ0 fun as δ1 => ∃ k ds m, as = [.v (.int k)] ∧ δ1[i]? = some (.own q (.lst ds)) ∧ ixN ds.length k = some m ∧ Put δ1 i (.own q (.lst (ds.set m d))) E.nx) (hv : Vis G.X.env.scope y)
    (hs : swapsWithSole [.Subscript (.Name y py) ix ps'] e pos.line G.X.env = pure false) (hw : swappedStores [.Subscript (.Name y py) ix ps'] e G.X.env = pure none)
    (h1 : (assignEach [.Subscript (.Name y py) ix ps'] G.X.env).map (·.2) = [assign (.Subscript (.Name y py) ix ps') G.X.env])
    (hsub : ∀ v, assign (.Subscript (.Name y py) ix ps') G.X.env v = (do
      let ov ← holding [v] (eval (.Name y py) G.X.env)
      let iv ← holding [v, ov] (eval ix G.X.env)
      standAt ps'
      holding [v, ov, iv] (setItem ov iv v)
      release [v, ov, iv] []))
    (hd : (y == ("__debug__" : Str)) = false := by decide) (hcd : (y == ("__classdict__" : Str)) = false := by decide) : ds G (.Assign [.Subscript (.Name y py) ix ps'] e pos) δ E := fun σ I H T z f =>
  (ps_asg PE.of (pg_sub PE.of PE.of set_list hsub) hs hw h1).to (h σ I H z f.xc _ fun r δ0 v I1 H1 ⟨d, fs, ⟨c1, hc1⟩, a⟩ y1 g1 => by
    have nr := fs.ne
    cases fs.eq
    obtain ⟨I2, y2, rp, g2⟩ := top_fast y1 g1 nr
    obtain ⟨w1, w2, w3⟩ := y2.own i q c1 hc1
    refine we_slot hi hv hd hcd w1 ?_
    have f2 := f.go g2 y2.sub
    refine we_mono (a σ I2 H1 y2 f2.xc (fun vs H3 => ∃ u, vs = [u] ∧ rSetL (.ref q) u v H3 fun H4 => T.nx σ H4) fun as δ1 vs I3 H3 ⟨k, ds, m, has, hc, hm, hΦ⟩ y3 ar g3 => ?_) fun u H3 ⟨u', e, h⟩ => by
      cases e
      exact h
    subst has
    obtain ⟨u, r', rfl, e1, e2⟩ := ar
    cases (show _ = _ from e1)
    cases (show _ = _ from e2)
    obtain ⟨g1', g2', g3'⟩ := y3.own i q _ hc
    obtain ⟨xs, x1, x2⟩ := g3'
    refine ⟨_, rfl, q, xs, k, m, rfl, rfl, x1, by rw [x2.length]; exact hm, ?_⟩
    have y4 := y3.upd (c' := .lst (ds.set m r.toD)) (o := .lst (xs.set m v)) hc ⟨_, upd_same, x2.set m (Rep.mono g3.le _ _ rp)⟩
    exact f2.nx σ _ I3 _ hΦ y4 (g3.trans (Goes.upd y3 hc) y3.sub))
end
/-! ### built-ins on data -/
section
variable {X : Cx} {Ψ : DV → Prop}
theorem dr_1 {R : List V → Hp → VK → Prop} {x : D} (h : ∀ I H v, Le I H → Rep X.K I x v → ∀ Q : VK, (∀ r v I' H', Ψ r → Res X.K I H I' H' r v → Q v H') → R [v] H Q) : DR X.K R [x] Ψ := fun I H vs s rp Q q => by
  obtain ⟨v, rfl, h1⟩ := reps1 rp
  exact h I H v s h1 Q q
theorem dr_2 {R : List V → Hp → VK → Prop} {x y : D} (h : ∀ I H v w, Le I H → Rep X.K I x v → Rep X.K I y w → ∀ Q : VK, (∀ r v I' H', Ψ r → Res X.K I H I' H' r v → Q v H') → R [v, w] H Q) : DR X.K R [x, y] Ψ := fun I H vs s rp Q q => by
  obtain ⟨v, w, rfl, h1, h2⟩ := reps2 rp
  exact h I H v w s h1 h2 Q q
theorem dr_lenL {as : List D} (h : Ψ (.val (.int as.length))) : DR X.K (wcall X (.builtin "len")) [.lst as] Ψ := dr_1 fun I H v s r Q q => by
  obtain ⟨a, xs, rfl, h1, h2⟩ := r
  refine call_len_seq.to ⟨a, xs, rfl, .inl (SqL.of (s _ _ h1)), ?_⟩
  rw [h2.length]
  exact q _ _ I H h (Res.val s rfl)
theorem dr_lenT {as : List D} (h : Ψ (.val (.int as.length))) : DR X.K (wcall X (.builtin "len")) [.tup as] Ψ := dr_1 fun I H v s r Q q => by
  obtain ⟨a, xs, rfl, h1, h2⟩ := r
  refine call_len_seq.to ⟨a, xs, rfl, .inr (s.sqU h1).t, ?_⟩
  rw [h2.length]
  exact q _ _ I H h (Res.val s rfl)
theorem dr_lenS {z : Str} (hl : z.length ≤ sizeLine) (h : Ψ (.val (.int z.length))) : DR X.K (wcall X (.builtin "len")) [.str z] Ψ := dr_1 fun I H v s r Q q => by
  cases (show _ = _ from r)
  exact call_len_str.to ⟨z, rfl, hl, q _ _ I H h (Res.val s rfl)⟩
theorem dr_int {i : Int} (h : Ψ (.val (.int i))) : DR X.K (wcall X (.type "int")) [.int i] Ψ := dr_1 fun I H v s r Q q => by
  cases (show _ = _ from r)
  exact call_int1.to (.inl ⟨i, rfl, q _ _ I H h (Res.val s rfl)⟩)
theorem dr_intB {b : Bool} (h : Ψ (.val (.int (if b then 1 else 0)))) : DR X.K (wcall X (.type "int")) [.bl b] Ψ := dr_1 fun I H v s r Q q => by
  cases (show _ = _ from r)
  exact call_int1.to (.inr ⟨b, rfl, q _ _ I H h (Res.val s rfl)⟩)
theorem dr_abs {i : Int} (h : Ψ (.val (.int (if i < 0 then -i else i)))) : DR X.K (wcall X (.builtin "abs")) [.int i] Ψ := dr_1 fun I H v s r Q q => by
  cases (show _ = _ from r)
  exact call_abs.to ⟨i, rfl, q _ _ I H h (Res.val s rfl)⟩
theorem dr_listOf {as : List D} {y : D} (hy : y = .lst as ∨ y = .tup as) (h : ∀ p, Ψ (.own p (.lst as))) : DR X.K (wcall X (.type "list")) [y] Ψ := dr_1 fun I H v s r Q q => by
  rcases hy with rfl | rfl
  · obtain ⟨a, xs, rfl, h1, h2⟩ := r
    exact call_list_of.to ⟨a, xs, rfl, .inl (SqL.of (s _ _ h1)), fun p hp => q _ _ _ _ (h p) (Res.own s hp ⟨_, upd_same, h2⟩)⟩
  · obtain ⟨a, xs, rfl, h1, h2⟩ := r
    exact call_list_of.to ⟨a, xs, rfl, .inr (s.sqU h1).t, fun p hp => q _ _ _ _ (h p) (Res.own s hp ⟨_, upd_same, h2⟩)⟩
theorem dr_tupOf {as : List D} {y : D} (hy : y = .lst as ∨ y = .tup as) (h : Ψ (.val (.tup as))) : DR X.K (wcall X (.type "tuple")) [y] Ψ := dr_1 fun I H v s r Q q => by
  rcases hy with rfl | rfl
  · obtain ⟨a, xs, rfl, h1, h2⟩ := r
    exact call_tuple_of.to ⟨a, xs, rfl, .inl ⟨SqL.of (s _ _ h1), fun p hp => q _ _ _ _ h (Res.fast s hp ⟨p, xs, rfl, .inl upd_same, Reps.mono (Le.new (le_none s hp)) _ _ h2⟩)⟩⟩
  · obtain ⟨a, xs, rfl, h1, h2⟩ := r
    exact call_tuple_of.to ⟨a, xs, rfl, .inr ⟨(s.sqU h1).t, q _ _ I H h (Res.val s ⟨a, xs, rfl, h1, h2⟩)⟩⟩
theorem dr_minL {ns : List Int} (hc : X.calm = true) (hn : 0 < ns.length) (h : ∀ m, m ∈ ns → (∀ y, y ∈ ns → m ≤ y) → Ψ (.val (.int m))) : DR X.K (wcall X (.builtin "min")) [.lst (ns.map .int)] Ψ := dr_1 fun I H v s r Q q => by
  obtain ⟨a, xs, rfl, h1, h2⟩ := r
  rw [h2.ints] at h1
  exact (cr_min hc).to ⟨a, ns, rfl, SqL.of (s _ _ h1), hn, fun m hm hl => q _ _ I H (h m hm hl) (Res.val s rfl)⟩
theorem dr_maxL {ns : List Int} (hc : X.calm = true) (hn : 0 < ns.length) (h : ∀ m, m ∈ ns → (∀ y, y ∈ ns → y ≤ m) → Ψ (.val (.int m))) : DR X.K (wcall X (.builtin "max")) [.lst (ns.map .int)] Ψ := dr_1 fun I H v s r Q q => by
  obtain ⟨a, xs, rfl, h1, h2⟩ := r
  rw [h2.ints] at h1
  exact (cr_max hc).to ⟨a, ns, rfl, SqL.of (s _ _ h1), hn, fun m hm hl => q _ _ I H (h m hm hl) (Res.val s rfl)⟩
theorem dr_sum {ns : List Int} (hc : X.calm = true) (h : Ψ (.val (.int ns.sum))) : DR X.K (wcall X (.builtin "sum")) [.lst (ns.map .int)] Ψ := dr_1 fun I H v s r Q q => by
  obtain ⟨a, xs, rfl, h1, h2⟩ := r
  rw [h2.ints] at h1
  exact (cr_sum hc).to ⟨a, ns, rfl, SqL.of (s _ _ h1), q _ _ I H h (Res.val s rfl)⟩
theorem dr_all {bs : List Bool} (hc : X.calm = true) (h : Ψ (.val (.bl (bs.all id)))) : DR X.K (wcall X (.builtin "all")) [.lst (bs.map .bl)] Ψ := dr_1 fun I H v s r Q q => by
  obtain ⟨a, xs, rfl, h1, h2⟩ := r
  rw [h2.bls] at h1
  exact (cr_all hc).to ⟨a, bs, rfl, SqL.of (s _ _ h1), q _ _ I H h (Res.val s rfl)⟩
theorem dr_any {bs : List Bool} (hc : X.calm = true) (h : Ψ (.val (.bl (bs.any id)))) : DR X.K (wcall X (.builtin "any")) [.lst (bs.map .bl)] Ψ := dr_1 fun I H v s r Q q => by
  obtain ⟨a, xs, rfl, h1, h2⟩ := r
  rw [h2.bls] at h1
  exact (cr_any hc).to ⟨a, bs, rfl, SqL.of (s _ _ h1), q _ _ I H h (Res.val s rfl)⟩
/-- the name of a thing's class -/
def tyD : D → Option String
  | .non => some "NoneType"
  | .bl _ => some "bool"
  | .int _ => some "int"
  | .str _ => some "str"
  | .lst _ => some "list"
  | .tup _ => some "tuple"
  | .dic _ _ => some "dict"
  | _ => none
theorem tyD_is {K : PySem.W.Frag} {I H : Hp} {x : D} {v : V} {a : String} (s : Le I H) (h : tyD x = some a) (r : Rep K I x v) : TyX K H v (.type a) := by
  cases x with
  | non => cases (show _ = _ from r); cases h; exact .base .non
  | bl b => cases (show _ = _ from r); cases h; exact .base (.bl b)
  | int i => cases (show _ = _ from r); cases h; exact .base (.int i)
  | str z => cases (show _ = _ from r); cases h; exact .base (.str z)
  | lst ds =>
    obtain ⟨p, xs, rfl, h1, h2⟩ := r
    cases h
    exact .base (.lst (s _ _ h1))
  | tup ds =>
    obtain ⟨p, xs, rfl, h1, h2⟩ := r
    cases h
    rcases h1 with h1 | ⟨o, its, n, g1, g2, _⟩
    · exact .base (.tup (s _ _ h1))
    · exact .kTuple g1 g2
  | dic ks ds =>
    obtain ⟨p, xs, rfl, h1, h2⟩ := r
    cases h
    rcases h1 with h1 | ⟨o, h1⟩
    · exact .base (.dK (s _ _ h1))
    · exact .fDict (s _ _ h1)
  | raw _ => cases h
  | klst _ => cases h
  | obj _ _ _ => cases h
  | xex _ _ _ _ => cases h
theorem dr_isi {x : D} {a b : String} {r : Bool} (ha : tyD x = some a) (hk : kitB a b = some r) (h : Ψ (.val (.bl r))) : DR X.K (wcall X (.builtin "isinstance")) [x, .raw (.ty b)] Ψ := dr_2 fun I H v w s r1 r2 Q q => by
  cases (show _ = _ from r2)
  exact call_isi.to ⟨v, _, _, _, r, rfl, .ty b, tyD_is s ha r1, kit_ty hk, q _ _ I H h (Res.val s rfl)⟩
/-- isinstance(x, (b, c)) -/
theorem kit2 {K : PySem.W.Frag} {a b c : String} {r1 r2 : Bool} (h1 : kitB a b = some r1) (h2 : kitB a c = some r2) : PySem.W.kitAny K (.type a) [.type b, .type c] = some (r1 || r2) := by
  refine kitAny_cons (kit_ty h1) (fun e => ?_) (fun e => by rw [e]; rfl)
  refine kitAny_cons (kit_ty h2) (fun e' => ?_) (fun e' => by rw [e']; simp)
  rw [e, e']
  exact kitAny_nil
theorem dr_isi2 {x : D} {a b c : String} {r1 r2 : Bool} (ha : tyD x = some a) (h1 : kitB a b = some r1) (h2 : kitB a c = some r2) (h : Ψ (.val (.bl (r1 || r2)))) : DR X.K (wcall X (.builtin "isinstance")) [x, .tup [.raw (.ty b), .raw (.ty c)]] Ψ := dr_2 fun I H v w s e1 e2 Q q => by
  obtain ⟨p, xs, rfl, g1, g2⟩ := e2
  obtain ⟨u, w', rfl, e3, e4⟩ := reps2 g2
  cases (show _ = _ from e3)
  cases (show _ = _ from e4)
  rcases g1 with g1 | ⟨o, its, n, k1, k2, k3, k4, k5⟩
  · exact call_isiT.to ⟨v, p, _, _, [.type b, .type c], _, rfl, s _ _ g1, .cons (.ty b) (.cons (.ty c) .nil), tyD_is s ha e1, kit2 h1 h2, q _ _ I H h (Res.val s rfl)⟩
  · have ei : its.toList = [.type b, .type c] := ClsV.all (.cons (.ty b) (.cons (.ty c) .nil)) k5
    obtain ⟨ocls, od, odat, osl⟩ := o
    have k2 : ocls = .type "tuple" := k2
    have k3 : odat = .seq its n := k3
    subst k2
    subst k3
    refine call_isiK.to ⟨v, p, od, [.type b, .type c], n, osl, _, _, rfl, ?_, tyD_is s ha e1, kit2 h1 h2, q _ _ I H h (Res.val s rfl)⟩
    rw [k1]
    have : its = ([Value.type b, Value.type c] : List Value).toArray := by rw [← ei]
    rw [this]
end
end Zd
namespace Zd
open PySem PySem.Spec L2
open PyProof.Rows (envOfC)
/-! ### small steps for the tactic -/
theorem nx_go {a c d : Env → Prop} {b : DV → Env → Prop} {δ : Env} (h : a δ) : DE.nx ⟨a, b, c, d⟩ δ := h
theorem rt_go {a c d : Env → Prop} {b : DV → Env → Prop} {r : DV} {δ : Env} (h : b r δ) : DE.rt ⟨a, b, c, d⟩ r δ := h
theorem bk_go {a c d : Env → Prop} {b : DV → Env → Prop} {δ : Env} (h : c δ) : DE.bk ⟨a, b, c, d⟩ δ := h
theorem ct_go {a c d : Env → Prop} {b : DV → Env → Prop} {δ : Env} (h : d δ) : DE.ct ⟨a, b, c, d⟩ δ := h
theorem okR_val {d : D} {p : Prop} (h : p) : okR (.val d) p := h
theorem okR_own {q : Addr} {c : Cell} {p : Prop} (h : p) : okR (.own q c) p := h
theorem if_dec {P A B : Prop} [Decidable P] (h1 : P → A) (h2 : ¬ P → B) : if decide P = true then A else B := by
  by_cases h : P
  · rw [if_pos (decide_eq_true h)]; exact h1 h
  · rw [if_neg (by rw [decide_eq_false h]; exact Bool.false_ne_true)]; exact h2 h
theorem if_ndec {P A B : Prop} [Decidable P] (h1 : ¬ P → A) (h2 : P → B) : if (!decide P) = true then A else B := by
  by_cases h : P
  · rw [if_neg (by rw [decide_eq_true h]; decide)]; exact h2 h
  · rw [if_pos (by rw [decide_eq_false h]; rfl)]; exact h1 h
theorem if_bool {b : Bool} {A B : Prop} (h1 : b = true → A) (h2 : b = false → B) : if b = true then A else B := by
  cases b with
  | true => exact iteT (h1 rfl)
  | false => exact iteF (h2 rfl)
theorem if_nbool {b : Bool} {A B : Prop} (h1 : b = false → A) (h2 : b = true → B) : if (!b) = true then A else B := by
  cases b with
  | true => exact iteF (h2 rfl)
  | false => exact iteT (h1 rfl)
theorem if_yes {P A B : Prop} [Decidable P] (h : P) (a : A) : if decide P = true then A else B := if_dec (fun _ => a) (fun n => absurd h n)
theorem if_no {P A B : Prop} [Decidable P] (h : ¬ P) (b : B) : if decide P = true then A else B := if_dec (fun y => absurd y h) (fun _ => b)
theorem if_nyes {P A B : Prop} [Decidable P] (h : ¬ P) (a : A) : if (!decide P) = true then A else B := if_ndec (fun _ => a) (fun n => absurd n h)
theorem if_nno {P A B : Prop} [Decidable P] (h : P) (b : B) : if (!decide P) = true then A else B := if_ndec (fun y => absurd h y) (fun _ => b)
theorem val_ne {d : D} {P : Prop} (h : P) : DV.val d ≠ .no ∧ P := ⟨fun e => DV.noConfusion e, h⟩
theorem own_ne {q : Addr} {c : Cell} {P : Prop} (h : P) : DV.own q c ≠ .no ∧ P := ⟨fun e => DV.noConfusion e, h⟩
theorem asked_v {G : Gx} {R : List V → Hp → VK → Prop} {Φ : DV → Env → Prop} {δ : Env} {as : List Arg} {ds : List D} (h : ArgsD δ as ds false) (k : DR G.X.K R ds fun r => Φ r δ) : Asked G R Φ as δ :=
  ⟨ds, false, h, fun I H vs s r Q q => k I H vs s r Q fun r v I' H' p re => q r v I' H' ⟨fun e => Bool.noConfusion e, p⟩ re⟩
theorem asked_o {G : Gx} {R : List V → Hp → VK → Prop} {Φ : DV → Env → Prop} {δ : Env} {as : List Arg} {ds : List D} (h : ArgsD δ as ds true) (k : DR G.X.K R ds fun r => flatV r = true ∧ Φ r δ) : Asked G R Φ as δ :=
  ⟨ds, true, h, fun I H vs s r Q q => k I H vs s r Q fun r v I' H' p re => q r v I' H' ⟨fun _ => p.1, p.2⟩ re⟩
/-- what is known of a list is said of its items -/
theorem dsb_open {G : Gx} {st : List Stmt} {δ : Env} {E : DE} {i : Nat} {p : Addr} {P : List D → Prop} (hδ : δ[i]? = some (.own p (.ab P))) (h : ∀ ds, P ds → dsb G st (δ.set i (.own p (.lst ds))) E) : dsb G st δ E := fun σ I H T x f => by
  obtain ⟨h1, h2, ds, xs, h3, h4, h5⟩ := x.own i p _ hδ
  have y : EnvR G.X.K I (upd H p (.lst xs)) σ (δ.set i (.own p (.lst ds))) := x.upd hδ ⟨xs, upd_same, h4⟩
  have e : upd H p (.lst xs) = H := by
    funext a
    by_cases ha : a = p
    · rw [ha, upd_same, h3]
    · rw [upd_ne ha]
  rw [e] at y
  exact h ds h5 σ I H T y (f.go ⟨Le.refl _, fun a o h i _ => ⟨h, i⟩, fun a ha => .inl ((own_upd hδ).mp ha)⟩ x.sub)
/-- less is said of a slot's own thing -/
theorem dsb_weak {G : Gx} {st : List Stmt} {δ : Env} {E : DE} {i : Nat} {p : Addr} {c c' : Cell} (hδ : δ[i]? = some (.own p c)) (w : Weak c c') (h : dsb G st (δ.set i (.own p c')) E) : dsb G st δ E := fun σ I H T x f => by
  obtain ⟨h1, h2, h3⟩ := x.own i p _ hδ
  obtain ⟨o, ho⟩ := h3.there
  have e : upd H p o = H := by
    funext a
    by_cases ha : a = p
    · rw [ha, upd_same, ho]
    · rw [upd_ne ha]
  have y : EnvR G.X.K I (upd H p o) σ (δ.set i (.own p c')) := x.upd hδ (by rw [e]; exact w.cell h3)
  rw [e] at y
  exact h σ I H T y (f.go ⟨Le.refl _, fun a o h i _ => ⟨h, i⟩, fun a ha => .inl ((own_upd hδ).mp ha)⟩ x.sub)
/-! ### what may be gone over -/
inductive SeqD : D → Nat → (Nat → D → Prop) → Prop where
  | lst {as : List D} : SeqD (.lst as) as.length (fun i d => as[i]? = some d)
  | klst {as : List D} : SeqD (.klst as) as.length (fun i d => as[i]? = some d)
  | tup {as : List D} : SeqD (.tup as) as.length (fun i d => as[i]? = some d)
  | str {s : Str} : SeqD (.str s) s.cps.size (fun i d => ∃ c, s.cps[i]? = some c ∧ d = .str ⟨#[c]⟩)

section
variable {X : Cx} {tg : Expr} {pins : List (Addr × Obj)} {s : Shared} {σ : L2.St} {H : Hp} {R : It → Hp → Prop}
theorem it_list {a : Addr} {xs : List V} (I1 : Inv X pins σ H s) (h : SqL X.K H a xs) (q : R (Itl X.K a) H) : wpAny (model X.prog X.w) X.A (pyIter (.ref a)) (PIE X pins σ tg R) X.xe s := by
  obtain ⟨its, rv, p, hz⟩ := I1.list h
  refine wpAny_pyIter_list p.isList ?_
  refine ⟨s.heap.objs.size, [s.heap.objs.size], _, _, H, rfl, I1.kept (t' := s.toks) fun b o e => Heap.get?_push_of_some _ e, turn_list a _, ⟨_, Heap.get?_push_size _ rfl, rfl, rfl⟩, fun b hb => ?_, q⟩
  have e : b = s.heap.objs.size := by simpa using hb
  subst e
  exact I1.fpOk (Nat.le_refl _) (I1.hok.fresh (Nat.le_refl _))
theorem it_tup {a : Addr} {xs : List V} (I1 : Inv X pins σ H s) (h : SqT X.K H a xs) (q : R (Itt X.K a) H) : wpAny (model X.prog X.w) X.A (pyIter (.ref a)) (PIE X pins σ tg R) X.xe s := by
  obtain ⟨its, rv, p, hz⟩ := I1.tuple h
  refine wpAny_pyIter_tuple (show s.heap.IsTuple a its.toArray from p) ?_
  refine ⟨s.heap.objs.size, [s.heap.objs.size], _, _, H, rfl, I1.kept (t' := s.toks) fun b o e => Heap.get?_push_of_some _ e, turn_tuple a _, ⟨_, Heap.get?_push_size _ rfl, rfl, rfl⟩, fun b hb => ?_, q⟩
  have e : b = s.heap.objs.size := by simpa using hb
  subst e
  exact I1.fpOk (Nat.le_refl _) (I1.hok.fresh (Nat.le_refl _))
theorem it_str {x : Str} {t : Tok} (I1 : Inv X pins σ H s) (q : R (Its x) H) : wpAny (model X.prog X.w) X.A (pyIter (.str x t)) (PIE X pins σ tg R) X.xe s := by
  cases ha : x.cps.all (· < 128)
  · exact wpAny_pyIter_wide ha (pi_one (tk := s.toks) I1 _ (turn_str _ x t "str_iterator" (.inr rfl)) ⟨_, Heap.get?_push_size _ rfl, rfl, rfl⟩ q)
  · exact wpAny_pyIter_ascii ha (pi_one (tk := s.toks) I1 _ (turn_str _ x t "str_ascii_iterator" (.inl rfl)) ⟨_, Heap.get?_push_size _ rfl, rfl, rfl⟩ q)
end
section
variable {G : Gx} {δ : Env} {pos : Pos}
theorem di_seq {tg l : Expr} {Φ : Nat → (Nat → D → Prop) → Env → Prop} (h : de G l δ fun r δ1 => ∃ d, Fast r d ∧ ∃ n it, SeqD d n it ∧ Φ n it δ1) : di G tg l δ Φ := fun σ I H x f R q pins s Iv =>
  thn (h σ I H x f (fun v H1 => ∃ I2 d n it δ1, SeqD d n it ∧ Rep G.X.K I2 d v ∧ Φ n it δ1 ∧ EnvR G.X.K I2 H1 σ δ1 ∧ Goes (Own δ) (Own δ1) I H I2 H1) (fun r δ1 v I1 H1 ⟨d, fs, n, it, sq, hΦ⟩ y g => by
    have nr := fs.ne
    cases fs.eq
    obtain ⟨I2, y2, rp, g2⟩ := top_fast y g nr
    exact ⟨I2, _, n, it, δ1, sq, rp, hΦ, y2, g2⟩) pins s Iv) fun u s1 ⟨v, H1, I1, rv, I2, d, n, it, δ1, sq, rp, hΦ, y2, g2⟩ => by
    have list : ∀ {as : List D} {a : Addr} {xs : List V}, (∀ I' H', Le I2 I' → Le I' H' → SqL G.X.K H' a xs) → Reps G.X.K I2 as xs → Yields G.X.K I2 (Itl G.X.K a) as.length (fun i d => as[i]? = some d) := fun {as a xs} h1 h2 i I' H' l1 l2 => by
      have hx := h1 I' H' l1 l2
      refine ⟨fun hi => ?_, fun hi => ⟨xs, hx, by rw [h2.length]; omega⟩⟩
      obtain ⟨w, e1, e2⟩ := h2.get (List.getElem?_eq_getElem hi)
      refine ⟨⟨xs, w, hx, e1⟩, fun z H2 ⟨e3, e4⟩ => ?_⟩
      have := e4 xs hx
      rw [e1] at this
      cases this
      rw [e3]
      exact ⟨I', _, List.getElem?_eq_getElem hi, Res.val l2 (Rep.mono l1 _ _ e2)⟩
    cases sq with
    | lst =>
      obtain ⟨a, xs, rfl, h1, h2⟩ := rp
      cases (show _ = _ from rv)
      exact it_list I1 (SqL.of (y2.sub _ _ h1)) (q _ _ δ1 _ I2 H1 hΦ y2 g2 (list (fun I' H' l1 l2 => SqL.of (l2 _ _ (l1 _ _ h1))) h2))
    | klst =>
      obtain ⟨a, xs, rfl, h1, h2⟩ := rp
      cases (show _ = _ from rv)
      exact it_list I1 (y2.sub.sqL h1) (q _ _ δ1 _ I2 H1 hΦ y2 g2 (list (fun I' H' l1 l2 => l2.sqL (l1.sqL h1)) h2))
    | tup =>
      obtain ⟨a, xs, rfl, h1, h2⟩ := rp
      cases (show _ = _ from rv)
      refine it_tup I1 (y2.sub.sqU h1).t (q _ _ δ1 _ I2 H1 hΦ y2 g2 fun i I' H' l1 l2 => ?_)
      have hx := (l2.sqU (l1.sqU h1)).t
      refine ⟨fun hi => ?_, fun hi => ⟨xs, hx, by rw [h2.length]; omega⟩⟩
      obtain ⟨w, e1, e2⟩ := h2.get (List.getElem?_eq_getElem hi)
      refine ⟨⟨xs, w, hx, e1⟩, fun z H2 ⟨e3, e4⟩ => ?_⟩
      have := e4 xs hx
      rw [e1] at this
      cases this
      rw [e3]
      exact ⟨I', _, List.getElem?_eq_getElem hi, Res.val l2 (Rep.mono l1 _ _ e2)⟩
    | str =>
      cases (show _ = _ from rp)
      obtain ⟨t, rfl⟩ := rv
      refine it_str I1 (q _ _ δ1 _ I2 H1 hΦ y2 g2 fun i I' H' l1 l2 => ⟨fun hi => ⟨hi, fun z H2 ⟨e3, c, e4, e5⟩ => ?_⟩, fun hi => Nat.le_of_eq hi.symm⟩)
      rw [e3, e5]
      exact ⟨I', .str ⟨#[c]⟩, ⟨c, e4, rfl⟩, Res.val l2 rfl⟩
/-- for i, x in enumerate(a list) -/
theorem di_enum {a : Expr} {p tpos : Pos} {elts : List Expr} {kk : Nat} {Φ : Nat → (Nat → D → Prop) → Env → Prop} (h : dgs G [a] δ fun as δ1 => ∃ ds, as = [.v (.lst ds)] ∧ Φ ds.length (fun i d => ∃ x, ds[i]? = some x ∧ d = .tup [.int (i : Int), x]) δ1)
    (hg : Gl G.X "enumerate") (hm : G.X.mg "enumerate" = none) (ha : PA G.X [a] (wes G.X [a])) (hs : starEach [a] G.X.env = [(false, eval a G.X.env)] := by rfl) : di G (.Tuple elts kk tpos) (.Call (.Name "enumerate" p) [a] [] pos) δ Φ := fun σ I H x f R q =>
  (pi_enum hg hm ha hs).to (h σ I H x f _ fun as δ1 vs I1 H1 ⟨ds, e, hΦ⟩ y ar g => by
    subst e
    obtain ⟨u, r, rfl, e1, e2⟩ := ar
    cases (show _ = _ from e2)
    obtain ⟨b, xs, rfl, h1, h2⟩ := e1
    refine ⟨b, xs, rfl, SqL.of (y.sub _ _ h1), q _ _ δ1 _ I1 H1 hΦ y g fun i I' H' l1 l2 => ?_⟩
    have hx := SqL.of (K := G.X.K) (l2 _ _ (l1 _ _ h1))
    refine ⟨fun hi => ?_, fun hi => ⟨xs, hx, by rw [h2.length]; omega⟩⟩
    obtain ⟨w, e1, e2⟩ := h2.get (List.getElem?_eq_getElem hi)
    refine ⟨⟨xs, w, hx, e1⟩, fun z H2 ⟨T, x, e3, e4, e5, e6⟩ => ?_⟩
    have := e6 xs hx
    rw [e1] at this
    cases this
    rw [e3, e5]
    have nI := le_none l2 e4
    refine ⟨_, .tup [.int (i : Int), _], ⟨_, List.getElem?_eq_getElem hi, rfl⟩, Res.fast l2 e4 ⟨T, _, rfl, .inl upd_same, ?_⟩⟩
    exact Reps.cons rfl (Reps.cons (Rep.mono (l1.trans (Le.new nI)) _ _ e2) Reps.nil))
end
/-! ### numbers -/
theorem intBits_nn {i : Int} (h : 0 ≤ i) : (0 : Int) ≤ (Builtin.Int.intBits i : Nat) := Int.natCast_nonneg _
section
variable {G : Gx} {δ : Env} {Φ : DV → Env → Prop} {pos : Pos}
def wbits : V → Hp → VK → Prop := fun x H Q => ∃ i, x = .int i ∧ Q (.int (Builtin.Int.intBits i : Nat)) H
theorem de_bits {o : Expr} {apos : Pos} (h : dgs G [o] δ (Asked G (R1l wbits) Φ)) (hbase : attributeBase o "bit_length" G.X.env (eval o G.X.env) = eval o G.X.env) (hline : (apos.endLine == pos.line) = true) : de G (.Call (.Attribute o "bit_length" apos) [] [] pos) δ Φ :=
  de_R (fun σ H Q h => (pe_bits PE.of hbase hline).to (show we G.X o σ H fun x H1 => wbits x H1 Q from wes1 h)) h
theorem dr_bits {X : Cx} {Ψ : DV → Prop} {i : Int} (h : Ψ (.val (.int (Builtin.Int.intBits i : Nat)))) : DR X.K (R1l wbits) [.int i] Ψ := dr_R1 fun I H v s r1 Q q => by
  cases (show _ = _ from r1)
  exact ⟨i, rfl, q _ _ I H h (Res.val s rfl)⟩
theorem dr_odd {X : Cx} {Ψ : DV → Prop} {i : Int} (h0 : 0 ≤ i) (h : Ψ (.val (.int (i % 2)))) : DR X.K (R2l (wop X (binaryOp .BitAnd))) [.int i, .int 1] Ψ := dr_R2 fun I H v w s r1 r2 Q q => by
  cases (show _ = _ from r1)
  cases (show _ = _ from r2)
  obtain ⟨n, rfl⟩ : ∃ n : Nat, i = (n : Int) := ⟨i.toNat, (Int.toNat_of_nonneg h0).symm⟩
  refine op_odd.to ⟨n, rfl, rfl, q (.val (.int ((n % 2 : Nat) : Int))) _ I H ?_ (Res.val s rfl)⟩
  have e : ((n % 2 : Nat) : Int) = (n : Int) % 2 := by omega
  rw [e]
  exact h
end
/-! ### defs to be called -/
structure CalP (P : Program) (w : World) (K : PySem.W.Frag) (mg : Str → Option Value) (base : Heap) (j : Nat) (x : Str) (n : Nat) (S : PSp) : Prop where
  ex : ∃ f fd ps, FnOk P w K mg base (L2N.CX P w) j f fd ps (spP K n S) ∧ ps.length = n ∧ mg x = some (.ref f) ∧ PySem.W.keepIn K (.ref f) = true ∧ Binds K fd ps []
structure CalM (P : Program) (w : World) (K : PySem.W.Frag) (mg : Str → Option Value) (base : Heap) (j : Nat) (x : Str) (n : Nat) (S : MSp) : Prop where
  ex : ∃ f fd ps, FnOk P w K mg base (L2N.CX P w) j f fd ps (spM K n S) ∧ ps.length = n ∧ mg x = some (.ref f) ∧ PySem.W.keepIn K (.ref f) = true ∧ Binds K fd ps []
/-- values alone -/
inductive AllV : List Arg → List D → Prop where
  | nil : AllV [] []
  | v {d : D} {as : List Arg} {ds : List D} : AllV as ds → AllV (.v d :: as) (d :: ds)
theorem AllV.eq {as : List Arg} {ds : List D} (h : AllV as ds) : as = ds.map Arg.v := by
  induction h with
  | nil => rfl
  | v _ ih => rw [ih]; rfl
section
variable {G : Gx} {δ : Env} {Φ : DV → Env → Prop} {pos : Pos} {k j n : Nat} {x : Str} {p : Pos}
theorem de_calP {S : PSp} {e : Expr} {es : List Expr} (C : CalP G.X.prog G.X.w G.X.K G.X.mg G.X.base j x n S) (hr : Room k G.X.A) (hj : j ≤ k) (tk : L2N.Takes G.X G.W)
    (h : dgs G (e :: es) δ fun as δ1 => ∃ ds b, ArgsD δ1 as ds b ∧ ds.length = n ∧ S ds (fun r => (b = true → flatV r = true) ∧ Φ r δ1) (fun x => (b = true → flatX x = true) ∧ G.Ξ x δ1)) (hg : Gl G.X x) (ha : PA G.X (e :: es) (wes G.X (e :: es)))
    (hdb : (x == ("__debug__" : Str)) = false := by decide) (he : starEach (e :: es) G.X.env = (false, eval e G.X.env) :: starEach es G.X.env := by rfl) (hpl : (backTo pos (starEach es G.X.env)).any (·.1) = false := by rfl) :
    de G (.Call (.Name x p) (e :: es) [] pos) δ Φ := by
  obtain ⟨f, fd, ps, F, hl, hm, hk, hb⟩ := C.ex
  subst hl
  exact de_callP F hm hk hb h hr hj tk hg ha hdb he hpl
theorem de_calM {S : MSp} {i : Nat} {y : Str} {py : Pos} {es : List Expr} {q : Addr} {c0 : Cell} (C : CalM G.X.prog G.X.w G.X.K G.X.mg G.X.base j x n S) (hr : Room k G.X.A) (hj : j ≤ k) (tk : L2N.Takes G.X G.W) (hi : Nth G.X.N i y) (hδ : δ[i]? = some (.own q c0))
    (h : dgs G es δ fun as δ1 => ∃ c ds, δ1[i]? = some (.own q c) ∧ AllV as ds ∧ ds.length + 1 = n ∧ S c ds (fun r c' => okR r (Put δ1 i (.own q c') (Φ r))) (fun x c' => Put δ1 i (.own q c') (G.Ξ x))) (hg : Gl G.X x) (hv : Vis G.X.env.scope y) (ha : PA G.X (.Name y py :: es) (wes G.X (.Name y py :: es)))
    (hd : (y == ("__debug__" : Str)) = false := by decide) (hcd : (y == ("__classdict__" : Str)) = false := by decide)
    (hdb : (x == ("__debug__" : Str)) = false := by decide) (he : starEach (.Name y py :: es) G.X.env = (false, eval (.Name y py) G.X.env) :: starEach es G.X.env := by rfl) (hpl : (backTo pos (starEach es G.X.env)).any (·.1) = false := by rfl) :
    de G (.Call (.Name x p) (.Name y py :: es) [] pos) δ Φ := by
  obtain ⟨f, fd, ps, F, hl, hm, hk, hb⟩ := C.ex
  subst hl
  exact de_callM F hm hk hb hi hδ (fun σ I H x f Q q => h σ I H x f Q fun as δ' vs I' H' ⟨c, ds, h1, h2, h3⟩ => q as δ' vs I' H' ⟨c, ds, h1, h2.eq, h3⟩) hr hj tk hg hv ha hd hcd hdb he hpl
end
end Zd
namespace Zd
open PySem PySem.Spec L2
open PyProof.Rows (envOfC)
section
variable {G : Gx} {δ : Env} {E : DE} {Φ : DV → Env → Prop} {pos : Pos}
theorem set_self {σ : L2.St} {i : Nat} {v : Option V} (h : σ[i]? = some v) : σ.set i v = σ := by
  apply List.ext_getElem?
  intro j
  by_cases hj : i = j
  · subst hj
    rw [List.getElem?_set_self (List.getElem?_eq_some_iff.mp h).1, h]
  · rw [List.getElem?_set_ne hj]
/-- a slot's own thing is held fast, and read -/
theorem de_frz {i : Nat} {x : Str} {p : Addr} {c : Cell} {d : D} (hi : Nth G.X.N i x) (hδ : δ[i]? = some (.own p c)) (fs : Fast (.own p c) d) (h : Put δ i (.val d) (Φ (.val d)))
    (hv : Vis G.X.env.scope x) (hd : (x == ("__debug__" : Str)) = false) (hcd : (x == ("__classdict__" : Str)) = false) : de G (.Name x pos) δ Φ := fun σ I H y f Q q => by
  refine (de_move hi hδ (Φ := fun r δ1 => r = .own p c ∧ δ1 = δ.set i .no) ⟨rfl, rfl⟩ hv hd hcd) σ I H y f Q fun r δ' v I' H' ⟨hr, he⟩ y1 g1 => ?_
  subst hr
  subst he
  obtain ⟨hv1, hi1, hc1, hn1⟩ := y1.head_own
  obtain ⟨I2, y2, g2⟩ := y1.freeze
  obtain ⟨u, e1, rp⟩ := y2.head_val
  cases e1
  cases fs.eq
  cases hv1
  obtain ⟨s1, _, _⟩ := y.own i p c hδ
  have y3 := ((y2.tail.cons_val rp).set i)
  rw [set_self s1] at y3
  have e : (List.set δ i .no).set i (.val ((DV.own p c).toD)) = δ.set i (.val ((DV.own p c).toD)) := by rw [List.set_set]
  have rp : Rep G.X.K I2 ((DV.own p c).toD) (.ref p) := rp
  have y3 : EnvR G.X.K I2 H' σ ((List.set δ i .no).set i (.val ((DV.own p c).toD))) := y3
  rw [e] at y3
  refine q _ _ _ I2 H' h (y3.cons_val rp) ((g1.trans g2 y1.sub).sub fun a ha => ?_)
  have ha := own_cons_val.mp ha
  obtain ⟨j, c', e'⟩ := own_set ha
  cases j with
  | zero => simp at e'
  | succ j =>
    by_cases hj : j = i
    · subst hj
      have e' : δ[j]? = some (.own a c') := by simpa using e'
      rw [hδ] at e'
      cases e'
      have := ha
      obtain ⟨k, ck, ek⟩ := this
      by_cases hk : k = j
      · subst hk
        have hl : k < δ.length := (List.getElem?_eq_some_iff.mp hδ).1
        rw [List.getElem?_set_self hl] at ek
        cases ek
      · rw [List.getElem?_set_ne (Ne.symm hk)] at ek
        exact absurd (y.inj k j _ _ _ ek hδ) hk
    · exact ⟨j, c', by rw [List.getElem?_set_ne (Ne.symm hj)]; simpa using e'⟩
theorem di_frz {tg : Expr} {i : Nat} {x : Str} {p : Addr} {c : Cell} {d : D} {Φ : Nat → (Nat → D → Prop) → Env → Prop} (hi : Nth G.X.N i x) (hδ : δ[i]? = some (.own p c)) (fs : Fast (.own p c) d) (h : Put δ i (.val d) fun δ1 => ∃ n it, SeqD d n it ∧ Φ n it δ1)
    (hv : Vis G.X.env.scope x) (hd : (x == ("__debug__" : Str)) = false) (hcd : (x == ("__classdict__" : Str)) = false) : di G tg (.Name x pos) δ Φ :=
  di_seq (de_frz hi hδ fs (by
    unfold Put at h ⊢
    exact ⟨d, .val, h⟩) hv hd hcd)
theorem env_frz {K : PySem.W.Frag} {I H : Hp} {σ : L2.St} {i : Nat} {p : Addr} {c : Cell} {d : D} (y : EnvR K I H σ δ) (hδ : δ[i]? = some (.own p c)) (fs : Fast (.own p c) d) :
    ∃ I2, EnvR K I2 H σ (δ.set i (.val d)) ∧ Goes (Own δ) (Own (δ.set i (.val d))) I H I2 H := by
  obtain ⟨s1, s2, s3⟩ := y.own i p c hδ
  have hl : i < δ.length := (List.getElem?_eq_some_iff.mp hδ).1
  have y0 := y.forget i (some (.ref p))
  rw [set_self s1] at y0
  have nn : ¬ Own (δ.set i .no) p := fun ⟨j, c', e⟩ => by
    by_cases hj : j = i
    · subst hj
      rw [List.getElem?_set_self hl] at e
      cases e
    · rw [List.getElem?_set_ne (Ne.symm hj)] at e
      exact hj (y.inj j i p _ _ e hδ)
  have y1 := y0.cons_own nn s2 s3
  obtain ⟨I2, y2, g2⟩ := y1.freeze
  obtain ⟨u, e1, rp⟩ := y2.head_val
  cases e1
  cases fs.eq
  have y3 := (y2.tail.cons_val rp).set i
  rw [set_self s1, List.set_set] at y3
  refine ⟨I2, y3, ⟨g2.le, fun a o h hi np => g2.keep a o h hi fun ho => ?_, fun a ha => ?_⟩⟩
  · obtain ⟨j, c', e⟩ := ho
    cases j with
    | zero =>
      simp at e
      obtain ⟨rfl, rfl⟩ := e
      exact np ⟨i, _, hδ⟩
    | succ j =>
      obtain ⟨j', c'', e'⟩ := own_forget (δ := δ) (i := i) ⟨j, c', by simpa using e⟩
      exact np ⟨j', c'', e'⟩
  · obtain ⟨j, c', e⟩ := ha
    by_cases hj : j = i
    · subst hj
      rw [List.getElem?_set_self hl] at e
      cases e
    · rw [List.getElem?_set_ne (Ne.symm hj)] at e
      exact .inl ⟨j, c', e⟩
/-- from here on nobody changes it -/
theorem dsb_frz {st : List Stmt} {i : Nat} {p : Addr} {c : Cell} {d : D} (hδ : δ[i]? = some (.own p c)) (fs : Fast (.own p c) d) (h : dsb G st (δ.set i (.val d)) E) : dsb G st δ E := fun σ I H T y f => by
  obtain ⟨I2, y2, g2⟩ := env_frz y hδ fs
  exact h σ I2 H T y2 (f.go g2 y2.sub)
/-- a word between a statement and what follows -/
theorem ds_mid {st : Stmt} (Mid : Env → Prop) (h : ds G st δ { E with nx := Mid }) (k : ∀ δ', Mid δ' → E.nx δ') : ds G st δ E := fun σ I H T x f =>
  h σ I H T x ⟨fun σ' δ' I' H' a b c => f.nx σ' δ' I' H' (k δ' a) b c, f.rt, f.bk, f.ct, f.xc⟩
/-- x[i], x a list of one's own: the item as it stands there -/
theorem de_ixO {i : Nat} {x : Str} {px : Pos} {p : Addr} {ds0 : List D} {b : Expr} (hi : Nth G.X.N i x) (hδ : δ[i]? = some (.own p (.lst ds0))) (h : dgs G [b] δ fun as δ1 => ∃ k ds d, AllV as [.int k] ∧ δ1[i]? = some (.own p (.lst ds)) ∧ atI ds k = some d ∧ Φ (.val d) δ1)
    (hv : Vis G.X.env.scope x) (hd : (x == ("__debug__" : Str)) = false) (hcd : (x == ("__classdict__" : Str)) = false) (hs : PlainIx b) : de G (.Subscript (.Name x px) b pos) δ Φ := fun σ I H y f Q q =>
  (pe_ix ix_list PE.of PE.of hs).to (by
    obtain ⟨h1, h2, h3⟩ := y.own i p _ hδ
    refine we_slot hi hv hd hcd h1 ?_
    refine we_mono (h σ I H y f (fun vs H1 => ∃ v, vs = [v] ∧ rIxL G.X.K (.ref p) v H1 Q) fun as δ1 vs I1 H1 ⟨k, ds, d, ha, hc, hat, hΦ⟩ y1 ar g => ?_) fun v H1 ⟨u, e, h⟩ => by
      cases e
      exact h
    cases ha.eq
    obtain ⟨u, r, rfl, e1, e2⟩ := ar
    cases (show _ = _ from e1)
    cases (show _ = _ from e2)
    obtain ⟨_, _, xs, g1, g2⟩ := y1.own i p _ hc
    unfold atI at hat
    cases e : ixN ds.length k with
    | none => rw [e] at hat; cases hat
    | some m =>
      rw [e] at hat
      obtain ⟨v, e3, e4⟩ := g2.get (i := m) hat
      refine ⟨_, rfl, p, xs, k, v, rfl, rfl, SqL.of g1, ?_, q _ δ1 v I1 H1 hΦ (y1.cons_val e4) (g.sub fun a h => own_cons_val.mp h)⟩
      unfold atI
      rw [g2.length, e]
      exact e3)
/-- x += e, for what the operator gives on the two values -/
theorem ds_aug {i : Nat} {x : Str} {d : D} {e : Expr} {op : Operator} {pos' : Pos} (hi : Nth G.X.N i x) (hδ : δ[i]? = some (.val d)) (h : de G e δ fun r δ1 => ∃ y, Fast r y ∧ DR G.X.K (R2l (wop G.X (inplaceOp op))) [d, y] fun r => r ≠ .no ∧ Put δ1 i r E.nx)
    (hN : G.X.N.Nodup) (hx : Loc G.X.env.scope x) (hf : G.X.fn x = true ∨ G.X.env.scope.names.lookup x = some .local) : ds G (.AugAssign (.Name x pos') op e pos) δ E := fun σ I H T y f =>
  (ps_aug (ti := wop G.X (inplaceOp op)) hN hi.eq hx PE.of (fun pins s σ H x y v u Q I rx ry h => h pins s σ v u I rx ry) hf).to (by
    obtain ⟨v, h1, h2⟩ := y.val i d hδ
    refine ⟨v, h1, h σ I H y f.xc _ fun r δ1 u I1 H1 ⟨dy, fs, hr⟩ y1 g1 => ?_⟩
    have nr := fs.ne
    cases fs.eq
    obtain ⟨I2, y2, rp, g2⟩ := top_fast y1 g1 nr
    obtain ⟨_, _, e1, e2⟩ := hr I2 H1 [v, u] y2.sub (Reps.cons (Rep.mono g2.le _ _ h2) (Reps.cons rp Reps.nil)) (fun z H2 => T.nx (σ.set i (some z)) H2) fun r' v' I' H' ⟨nr', hp⟩ re => by
      obtain ⟨I3, y3, g3⟩ := unlent (b := false) y2 (Bor.refl y2.sub) (fun _ => rfl) (fun e => by cases e) re
      exact f.nx _ _ I3 H' hp (y3.set i) ((g2.trans g3 y2.sub).sub fun _ => own_set)
    cases e1
    exact e2)
end
section
variable {X : Cx} {Ψ : DV → Prop} {i j : Int}
theorem small_len {n : Nat} (h : Nat.ble n 1000 = true) : n ≤ sizeLine := Nat.le_trans (Nat.le_of_ble_eq_true h) (by decide)
theorem dr_lenM {α : Type} {f : α → D} {as : List α} (h : Ψ (.val (.int as.length))) : DR X.K (wcall X (.builtin "len")) [.lst (as.map f)] Ψ := dr_lenL (by rw [List.length_map]; exact h)
theorem dr_lenMT {α : Type} {f : α → D} {as : List α} (h : Ψ (.val (.int as.length))) : DR X.K (wcall X (.builtin "len")) [.tup (as.map f)] Ψ := dr_lenT (by rw [List.length_map]; exact h)
theorem dr_iadd (h : Ψ (.val (.int (i + j)))) : DR X.K (R2l (wop X (inplaceOp .Add))) [.int i, .int j] Ψ := dr_II0 iop_add h
theorem dr_isub (h : Ψ (.val (.int (i - j)))) : DR X.K (R2l (wop X (inplaceOp .Sub))) [.int i, .int j] Ψ := dr_II0 iop_sub h
end
end Zd
/-! Deep data: shapes of goals that the macros meet. -/
namespace Zd
open PySem L2
theorem small_lt {n : Nat} (h : Nat.ble n 1000 = true) : n < sizeLine := Nat.lt_of_le_of_lt (Nat.le_of_ble_eq_true h) (by decide)
theorem tru_go {δ : Env} {as : List Arg} {d : D} {k b : Bool} {Φ : Bool → Prop} (h : ArgsD δ as [d] b) (t : TruD d k) (q : Φ k) : ∃ d k b, ArgsD δ as [d] b ∧ TruD d k ∧ Φ k := ⟨d, k, b, h, t, q⟩
theorem dr_isi3 {X : Cx} {Ψ : DV → Prop} {x : D} {a b c : String} {r1 r2 r : Bool} (hr : (r1 || r2) = r) (ha : tyD x = some a) (h1 : kitB a b = some r1) (h2 : kitB a c = some r2) (h : Ψ (.val (.bl r))) : DR X.K (wcall X (.builtin "isinstance")) [x, .tup [.raw (.ty b), .raw (.ty c)]] Ψ :=
  dr_isi2 ha h1 h2 (by rw [hr]; exact h)
theorem cal_go {δ : Env} {as : List Arg} {n : Nat} {P : List D → Bool → Prop} {ds : List D} {b : Bool} (h : ArgsD δ as ds b) (hl : ds.length = n) (k : P ds b) : ∃ ds b, ArgsD δ as ds b ∧ ds.length = n ∧ P ds b := ⟨ds, b, h, hl, k⟩
theorem fm_if {α β : Type} {t : α → Bool} {g : α → β} : ∀ {as : List α}, as.filterMap (fun i => if t i = true then some (g i) else none) = (as.filter t).map g
  | [] => rfl
  | a :: as => by
    rw [List.filterMap_cons, List.filter_cons]
    by_cases h : t a = true
    · rw [if_pos h, if_pos h, List.map_cons, fm_if]
    · rw [if_neg h, if_neg h, fm_if]
theorem bit_nn (c i : Nat) : 0 ≤ (c : Int) / 2 ^ ((i : Int)).toNat := Int.ediv_nonneg (Int.natCast_nonneg _) (Int.le_of_lt (Int.pow_pos (by decide)))
theorem bit_cast (c i : Nat) : (c : Int) / 2 ^ ((i : Int)).toNat % 2 = ((c / 2 ^ i % 2 : Nat) : Int) := by
  rw [Int.toNat_natCast]
  push_cast
  rfl
theorem bit_is (c i : Nat) : ((c : Int) / 2 ^ ((i : Int)).toNat % 2 = 1) ↔ c / 2 ^ i % 2 = 1 := by
  rw [bit_cast]; omega
section
variable {G : Gx} {δ : Env} {E : DE}
/-- the value of an expression, held fast from here on -/
theorem de_fast {e : Expr} {Φ : DV → Env → Prop} (h : de G e δ fun r δ1 => ∃ d, Fast r d ∧ Φ (.val d) δ1) : de G e δ Φ := fun σ I H x f Q q =>
  h σ I H x f Q fun r δ1 v I1 H1 ⟨d, fs, k⟩ y g => by
    cases fs with
    | val => exact q _ _ _ _ _ k y g
    | lst =>
      obtain ⟨I2, y2, g2⟩ := env_frz (i := 0) y rfl .lst
      exact q _ δ1 v I2 H1 k y2 (g.trans g2 y.sub)
    | dic =>
      obtain ⟨I2, y2, g2⟩ := env_frz (i := 0) y rfl .dic
      exact q _ δ1 v I2 H1 k y2 (g.trans g2 y.sub)
    | obj =>
      obtain ⟨I2, y2, g2⟩ := env_frz (i := 0) y rfl .obj
      exact q _ δ1 v I2 H1 k y2 (g.trans g2 y.sub)
    | ab =>
      obtain ⟨I2, y2, g2⟩ := env_frz (i := 0) y rfl .ab
      exact q _ δ1 v I2 H1 k y2 (g.trans g2 y.sub)
end
theorem least_nat {P : Nat → Prop} : ∀ n, P n → ∃ m, P m ∧ ∀ k, P k → m ≤ k := fun n => by
  induction n using Nat.strongRecOn with
  | _ n ih =>
    intro h
    by_cases hx : ∃ k, k < n ∧ P k
    · obtain ⟨k, hk, hp⟩ := hx
      exact ih k hk hp
    · exact ⟨n, h, fun k hk => Nat.le_of_not_lt fun hlt => hx ⟨k, hlt, hk⟩⟩
theorem dsb_frzS {G : Gx} {δ δ' : Env} {E : DE} {st : List Stmt} {i : Nat} {p : Addr} {c : Cell} {d : D} (hδ : δ[i]? = some (.own p c)) (fs : Fast (.own p c) d) (sa : SetAt δ i (.val d) δ') (h : dsb G st δ' E) : dsb G st δ E := dsb_frz hδ fs (by rw [sa.eq]; exact h)
theorem ds_frzS {G : Gx} {δ δ' : Env} {E : DE} {st : Stmt} {i : Nat} {p : Addr} {c : Cell} {d : D} (hδ : δ[i]? = some (.own p c)) (fs : Fast (.own p c) d) (sa : SetAt δ i (.val d) δ') (h : ds G st δ' E) : ds G st δ E := fun σ I H T y f => by
  obtain ⟨I2, y2, g2⟩ := env_frz y hδ fs
  rw [sa.eq] at y2 g2
  exact h σ I2 H T y2 (f.go g2 y2.sub)
theorem calM_go {δ : Env} {i : Nat} {q : Addr} {as : List Arg} {n : Nat} {P : Cell → List D → Prop} {c : Cell} {ds : List D} (h : δ[i]? = some (.own q c)) (a : AllV as ds) (hl : ds.length + 1 = n) (k : P c ds) : ∃ c ds, δ[i]? = some (.own q c) ∧ AllV as ds ∧ ds.length + 1 = n ∧ P c ds := ⟨c, ds, h, a, hl, k⟩
theorem iteNT {A B : Prop} (h : B) : if (!true) = true then A else B := h
theorem iteNF {A B : Prop} (h : A) : if (!false) = true then A else B := h
/-- data that may be compared -/
def okD : Nat → D → Prop
  | _, .non => True
  | _, .bl _ => True
  | _, .int _ => True
  | _, .str s => PyData.strOk s = true
  | n + 1, .lst ds => ∀ x ∈ ds, okD n x
  | n + 1, .tup ds => ∀ x ∈ ds, okD n x
  | _, _ => False
theorem okDs_py {n : Nat} (ih : ∀ d, okD n d → ∃ p, toPy d = some p ∧ p.canLay0 = true ∧ p.depth ≤ n) : ∀ ds : List D, (∀ x ∈ ds, okD n x) → ∃ ps, toPys ds = some ps ∧ PyData.canLayAll0 ps = true ∧ PyData.depthAll ps ≤ n
  | [], _ => ⟨[], rfl, rfl, Nat.zero_le _⟩
  | d :: ds, h => by
    obtain ⟨p, p1, p2, p3⟩ := ih d (h d (.head _))
    obtain ⟨ps, q1, q2, q3⟩ := okDs_py ih ds fun x hx => h x (.tail _ hx)
    refine ⟨p :: ps, ?_, ?_, ?_⟩
    · rw [toPys, p1, q1]; rfl
    · rw [PyData.canLayAll0, p2, q2]; rfl
    · rw [PyData.depthAll]; omega
theorem okD_py : ∀ (n : Nat) (d : D), okD n d → ∃ p, toPy d = some p ∧ p.canLay0 = true ∧ p.depth ≤ n
  | n, .non, _ => ⟨.none, rfl, rfl, Nat.zero_le _⟩
  | n, .bl b, _ => ⟨.bool b, rfl, rfl, Nat.zero_le _⟩
  | n, .int i, _ => ⟨.int i, rfl, rfl, Nat.zero_le _⟩
  | n, .str s, h => by
    have h : PyData.strOk s = true := by
      cases n <;> exact h
    exact ⟨.str s, rfl, h, Nat.zero_le _⟩
  | n + 1, .lst ds, h => by
    obtain ⟨ps, q1, q2, q3⟩ := okDs_py (okD_py n) ds h
    exact ⟨.list ps, by rw [toPy, q1]; rfl, q2, by rw [PyData.depth]; omega⟩
  | n + 1, .tup ds, h => by
    obtain ⟨ps, q1, q2, q3⟩ := okDs_py (okD_py n) ds h
    exact ⟨.tuple ps, by rw [toPy, q1]; rfl, q2, by rw [PyData.depth]; omega⟩
  | 0, .lst ds, h => h.elim
  | 0, .tup ds, h => h.elim
  | n, .raw v, h => by cases n <;> exact h.elim
  | n, .klst v, h => by cases n <;> exact h.elim
  | n, .dic k v, h => by cases n <;> exact h.elim
  | n, .obj C k v, h => by cases n <;> exact h.elim
  | n, .xex a dd k v, h => by cases n <;> exact h.elim
theorem dr_eqSame {X : Cx} {Ψ : DV → Prop} {x : D} {n k : Nat} (hr : Room k X.A) (hx : okD n x) (hn : n ≤ 64) (h : Ψ (.val (.bl true))) : DR X.K (R2l (wop X (compareOp .Eq))) [x, x] Ψ := by
  obtain ⟨p, p1, p2, p3⟩ := okD_py n x hx
  have sh : SeqAt.shaped p = true := by
    unfold SeqAt.shaped
    rw [p2, decide_eq_true (show p.depth ≤ 64 by omega)]; rfl
  exact dr_eqD hr.units p1 p1 sh sh (by rw [SeqAt.eqv_refl p p2]; exact h)
theorem dr_neSame {X : Cx} {Ψ : DV → Prop} {x : D} {n k : Nat} (hr : Room k X.A) (hx : okD n x) (hn : n ≤ 64) (h : Ψ (.val (.bl false))) : DR X.K (R2l (wop X (compareOp .NotEq))) [x, x] Ψ := by
  obtain ⟨p, p1, p2, p3⟩ := okD_py n x hx
  have sh : SeqAt.shaped p = true := by
    unfold SeqAt.shaped
    rw [p2, decide_eq_true (show p.depth ≤ 64 by omega)]; rfl
  exact dr_neD hr.units p1 p1 sh sh (by rw [SeqAt.eqv_refl p p2]; exact h)
end Zd
/-! Deep data: slices, further built-ins. -/
namespace Zd
open PySem L2
/-! ### slices -/
def wsl (X : Cx) : V → Option Int → Option Int → Hp → VK → Prop := fun x lo hi H Q => ∀ (pins : List (Addr × Obj)) (s : Shared) (σ : L2.St) (v vl vu : Value) (sl : Addr), Inv X pins σ H s → RelV x v → s.heap.IsSliceOf sl vl vu .none → IsPart vl lo → IsPart vu hi →
    ∃ T id, typeLookup (.type T) "__getitem__" = pure (some (.builtin id)) ∧ s.TypeIs v T ∧ wpAny (model X.prog X.w) X.A (getItem v (.ref sl)) (EP X pins σ Q) X.xe s
theorem sl_of {X : Cx} : SlR X (wsl X) := fun pins s σ H x v vl vu lo hi sl Q I rx hs pl pu h => h pins s σ v vl vu sl I rx hs pl pu
theorem sl_to {X : Cx} {r : V → Option Int → Option Int → Hp → VK → Prop} {x : V} {lo hi : Option Int} {H : Hp} {Q : VK} (p : SlR X r) (h : r x lo hi H Q) : wsl X x lo hi H Q := fun pins s σ v vl vu sl I rx hs pl pu => p pins s σ H x v vl vu lo hi sl Q I rx hs pl pu h
def RslTo (X : Cx) : List V → Hp → VK → Prop := fun vs H Q => ∃ x i, vs = [x, .int i] ∧ wsl X x none (some i) H Q
def RslFr (X : Cx) : List V → Hp → VK → Prop := fun vs H Q => ∃ x i, vs = [x, .int i] ∧ wsl X x (some i) none H Q
def RslAl (X : Cx) : List V → Hp → VK → Prop := fun vs H Q => ∃ x, vs = [x] ∧ wsl X x none none H Q
section
variable {G : Gx} {δ : Env} {Φ : DV → Env → Prop} {pos p2 : Pos}
theorem de_slTo {e hi : Expr} (h : dgs G [e, hi] δ (Asked G (RslTo G.X) Φ)) : de G (.Subscript e (.Slice none (some hi) none p2) pos) δ Φ :=
  de_R (es := [e, hi]) (R := RslTo G.X) (fun σ H Q h => (pe_slice sl_of PE.of po_none (po_some PE.of)).to (we_mono h fun x H1 h1 => we_mono h1 fun y H2 ⟨x', i, e, h2⟩ => by
    cases e
    exact ⟨i, rfl, h2⟩)) h
theorem de_slFr {e lo : Expr} (h : dgs G [e, lo] δ (Asked G (RslFr G.X) Φ)) : de G (.Subscript e (.Slice (some lo) none none p2) pos) δ Φ :=
  de_R (es := [e, lo]) (R := RslFr G.X) (fun σ H Q h => (pe_slice sl_of PE.of (po_some PE.of) po_none).to (we_mono h fun x H1 h1 => we_mono h1 fun y H2 ⟨x', i, e, h2⟩ => by
    cases e
    exact ⟨i, rfl, h2⟩)) h
theorem de_slAl {e : Expr} (h : dgs G [e] δ (Asked G (RslAl G.X) Φ)) : de G (.Subscript e (.Slice none none none p2) pos) δ Φ :=
  de_R (es := [e]) (R := RslAl G.X) (fun σ H Q h => (pe_slice sl_of PE.of po_none po_none).to (we_mono h fun x H1 ⟨x', e, h2⟩ => by
    cases e
    exact h2)) h
end
/-- the items of a slice -/
def cutD (ds : List D) (lo hi : Option Int) : List D := (ds.drop (HT.sIx ds.length 0 lo)).take (HT.sIx ds.length ds.length hi - HT.sIx ds.length 0 lo)
section
variable {X : Cx} {Ψ : DV → Prop}
theorem cut_reps {K : PySem.W.Frag} {I : Hp} {ds : List D} {vs : List V} {lo hi : Option Int} (h : Reps K I ds vs) : Reps K I (cutD ds lo hi) (cutV vs lo hi) := by
  unfold cutD cutV
  rw [h.length]
  exact (h.drop _).take _
theorem wsl_lst {as : List D} {lo hi : Option Int} {I H : Hp} {v : V} {Q : VK} (s : Le I H) (r : Rep X.K I (.lst as) v) (h : ∀ p, Ψ (.own p (.lst (cutD as lo hi)))) (q : ∀ r v I' H', Ψ r → Res X.K I H I' H' r v → Q v H') : wsl X v lo hi H Q := by
  obtain ⟨a, xs, rfl, g1, g2⟩ := r
  exact sl_to sl_list ⟨a, xs, rfl, SqL.of (s _ _ g1), fun p hp => q _ _ _ _ (h p) (Res.own s hp ⟨_, upd_same, cut_reps g2⟩)⟩
theorem wsl_tup {as : List D} {lo hi : Option Int} {I H : Hp} {v : V} {Q : VK} (s : Le I H) (r : Rep X.K I (.tup as) v) (h : Ψ (.val (.tup (cutD as lo hi)))) (q : ∀ r v I' H', Ψ r → Res X.K I H I' H' r v → Q v H') : wsl X v lo hi H Q := by
  obtain ⟨a, xs, rfl, g1, g2⟩ := r
  refine sl_to sl_tupA ⟨a, xs, rfl, (s.sqU g1).t, fun ⟨e1, e2⟩ => ?_, fun _ p hp => ?_⟩
  · have e : cutD as lo hi = as := by
      unfold cutD
      rw [← g2.length, e1, e2]
      rw [List.drop_zero, g2.length, Nat.sub_zero, List.take_length]
    rw [e] at h
    exact q _ _ I H h (Res.val s ⟨a, xs, rfl, g1, g2⟩)
  · have hi' : I p = none := le_none s hp
    exact q _ _ _ _ h (Res.fast s hp ⟨p, _, rfl, .inl upd_same, (cut_reps g2).mono (Le.new hi')⟩)
theorem dr_slToL {as : List D} {i : Int} (h : ∀ p, Ψ (.own p (.lst (cutD as none (some i))))) : DR X.K (RslTo X) [.lst as, .int i] Ψ := dr_2 fun I H v w s r1 r2 Q q => by
  cases (show _ = _ from r2)
  exact ⟨v, i, rfl, wsl_lst s r1 h q⟩
theorem dr_slFrL {as : List D} {i : Int} (h : ∀ p, Ψ (.own p (.lst (cutD as (some i) none)))) : DR X.K (RslFr X) [.lst as, .int i] Ψ := dr_2 fun I H v w s r1 r2 Q q => by
  cases (show _ = _ from r2)
  exact ⟨v, i, rfl, wsl_lst s r1 h q⟩
theorem dr_slToT {as : List D} {i : Int} (h : Ψ (.val (.tup (cutD as none (some i))))) : DR X.K (RslTo X) [.tup as, .int i] Ψ := dr_2 fun I H v w s r1 r2 Q q => by
  cases (show _ = _ from r2)
  exact ⟨v, i, rfl, wsl_tup s r1 h q⟩
theorem dr_slFrT {as : List D} {i : Int} (h : Ψ (.val (.tup (cutD as (some i) none)))) : DR X.K (RslFr X) [.tup as, .int i] Ψ := dr_2 fun I H v w s r1 r2 Q q => by
  cases (show _ = _ from r2)
  exact ⟨v, i, rfl, wsl_tup s r1 h q⟩
theorem dr_slAlL {as : List D} (h : ∀ p, Ψ (.own p (.lst as))) : DR X.K (RslAl X) [.lst as] Ψ := dr_1 fun I H v s r1 Q q => by
  refine ⟨v, rfl, wsl_lst s r1 (fun p => ?_) q⟩
  have e : cutD as none none = as := by
    unfold cutD
    rw [HT.sIx_none, HT.sIx_none, List.drop_zero, Nat.sub_zero, List.take_length]
  rw [e]
  exact h p
end
theorem cutD_to {ds : List D} {k : Nat} : cutD ds none (some (k : Int)) = ds.take k := by
  unfold cutD
  rw [HT.sIx_none, HT.sIx_nat, List.drop_zero, Nat.sub_zero]
  by_cases h : k ≤ ds.length
  · rw [Nat.min_eq_left h]
  · rw [Nat.min_eq_right (by omega), List.take_length, List.take_of_length_le (by omega)]
theorem cutD_from {ds : List D} {k : Nat} : cutD ds (some (k : Int)) none = ds.drop k := by
  unfold cutD
  rw [HT.sIx_none, HT.sIx_nat]
  by_cases h : k ≤ ds.length
  · rw [Nat.min_eq_left h, List.take_of_length_le (by rw [List.length_drop]; omega)]
  · rw [Nat.min_eq_right (by omega), Nat.sub_self, List.take_zero, List.drop_eq_nil_of_le (by omega)]
/-! ### flatness of what a map gives -/
theorem flat_map {α : Type} {f : α → D} (h : ∀ a, flatD (f a) = true) : ∀ as : List α, flatDs (as.map f) = true
  | [] => rfl
  | a :: as => by
    rw [List.map_cons, flatDs, h a, flat_map h as]; rfl
theorem flat_own {α : Type} {f : α → D} {p : Addr} {as : List α} (h : ∀ a, flatD (f a) = true) : Zd.flatV (.own p (.lst (as.map f))) = true := flat_map h as
theorem flat_tup {α : Type} {f : α → D} {as : List α} (h : ∀ a, flatD (f a) = true) : Zd.flatV (.val (.tup (as.map f))) = true := flat_map h as
theorem dsb_weakS {G : Gx} {δ δ' : Env} {E : DE} {st : List Stmt} {i : Nat} {p : Addr} {c c' : Cell} (hδ : δ[i]? = some (.own p c)) (w : Weak c c') (sa : SetAt δ i (.own p c') δ') (h : dsb G st δ' E) : dsb G st δ E := dsb_weak hδ w (by rw [sa.eq]; exact h)
theorem dr_isNv {X : Cx} {Ψ : DV → Prop} {x : D} {b : Bool} (hc : clear x = true) (hb : isNon x = b) (h : Ψ (.val (.bl b))) : DR X.K (R2l (wop X (compareOp .Is))) [x, .non] Ψ := dr_isN hc (by rw [hb]; exact h)
theorem dr_notNv {X : Cx} {Ψ : DV → Prop} {x : D} {b : Bool} (hc : clear x = true) (hb : (!isNon x) = b) (h : Ψ (.val (.bl b))) : DR X.K (R2l (wop X (compareOp .IsNot))) [x, .non] Ψ := dr_notN hc (by rw [hb]; exact h)
theorem dr_max2 {X : Cx} {Ψ : DV → Prop} {i j : Int} (hc : X.calm = true) (h : Ψ (.val (.int (if j > i then j else i)))) : DR X.K (wcall X (.builtin "max")) [.int i, .int j] Ψ := dr_2 fun I H v w s r1 r2 Q q => by
  cases (show _ = _ from r1)
  cases (show _ = _ from r2)
  exact (call_max2 hc).to ⟨i, j, rfl, q _ _ I H h (Res.val s rfl)⟩
theorem dr_min2 {X : Cx} {Ψ : DV → Prop} {i j : Int} (hc : X.calm = true) (h : Ψ (.val (.int (if j < i then j else i)))) : DR X.K (wcall X (.builtin "min")) [.int i, .int j] Ψ := dr_2 fun I H v w s r1 r2 Q q => by
  cases (show _ = _ from r1)
  cases (show _ = _ from r2)
  exact (call_min2 hc).to ⟨i, j, rfl, q _ _ I H h (Res.val s rfl)⟩
/-- a, b = e -/
theorem ds_asgT {G : Gx} {δ : Env} {E : DE} {tg e : Expr} {pos : Pos} (h : de G e δ fun r δ1 => ∃ d, Fast r d ∧ ∃ js, dgt G tg d δ1 js E.nx) (hs : swapsWithSole [tg] e pos.line G.X.env = pure false) (hw : swappedStores [tg] e G.X.env = pure none)
    (h1 : (assignEach [tg] G.X.env).map (·.2) = [assign tg G.X.env]) : ds G (.Assign [tg] e pos) δ E := fun σ I H T y f =>
  (ps_asg PE.of PG.of hs hw h1).to (h σ I H y f.xc _ fun r δ1 v I1 H1 ⟨d, fs, js, k⟩ y1 g1 => by
    have nr := fs.ne
    cases fs.eq
    obtain ⟨I2, y2, rp, g2⟩ := top_fast y1 g1 nr
    exact k σ I2 H1 v y2 rp _ fun σ' δ' hΦ y3 g3 _ _ => f.nx σ' δ' I2 H1 hΦ y3 (g2.trans g3 y2.sub))
end Zd
/-! Deep data: own errors, raised and caught. -/
namespace Zd
open PySem L2
open PyProof.Rows (envOfC)
/-- what C's own __init__(self, fld) does: self.fld = its argument -/
def spInit (C : Addr) (fld : Str) : Sp := fun vs H Q _ => ∃ a y, vs = [.ref a, y] ∧ H a = some (exo a C none) ∧ ∀ dx, H dx = none → dx ≠ a → Q .non (upd (upd H dx (exd dx [(fld, y)])) a (exo a C (some dx)))
theorem fn_init {P : Program} {w : World} {K : PySem.W.Frag} {mg : Str → Option Value} {base : Heap} {x qual self arg fld : Str} {st : Stmt} {f C : Addr} {fd : FuncData} {p1 p2 p3 pos : Pos} (F : Fun K x qual st f fd) (Sc : FnScope [self, arg] [self, arg] (defScope st))
    (hb : defBody st = [.Assign [.Attribute (.Name self p1) fld p2] (.Name arg p3) pos]) (T : OexC K C) (hno : PySem.W.findIn K (.ref C) fld = some none) (v1 : Vis (defScope st) self) (v2 : Vis (defScope st) arg)
    (d1 : (self == ("__debug__" : Str)) = false := by decide) (d2 : (self == ("__classdict__" : Str)) = false := by decide) (d3 : (arg == ("__debug__" : Str)) = false := by decide) (d4 : (arg == ("__classdict__" : Str)) = false := by decide) :
    FnOk P w K mg base (L2N.CX P w) 1 f fd [self, arg] (spInit C fld) := by
  refine okN F Sc (fun vs H Q E ⟨a, y, e, _⟩ => by rw [e]; rfl) fun cdv A outer s H vs Q E hr ⟨a, y, e, ha, h⟩ => ?_
  subst e
  rw [hb]
  refine ⟨_, pss_one (ps_ost (f := fld) PE.of PE.of rfl), ?_⟩
  refine we_slot (i := 1) (.s .z) v2 d3 d4 rfl ?_
  refine we_slot (i := 0) .z v1 d1 d2 rfl ?_
  exact ⟨a, C, rfl, T, hno, .inl ⟨ha, h⟩⟩
/-- an own error class with one field -/
structure ErrC (P : Program) (w : World) (K : PySem.W.Frag) (mg : Str → Option Value) (base : Heap) (x fld : Str) (C : Addr) : Prop where
  T : OexC K C
  m : mg x = some (.ref C)
  ini : ∃ fI fd self arg, PySem.W.findIn K (.ref C) "__init__" = some (some (.ref fI)) ∧ PySem.W.typeIn K (.ref fI) = some (.type "function") ∧ FnOk P w K mg base (L2N.CX P w) 1 fI fd [self, arg] (spInit C fld) ∧ Binds K fd [self, arg] []
theorem upd_del {H : Hp} {a dx : Addr} {o1 o2 o3 o4 : HO} (ha : H a = none) (hne : dx ≠ a) : upd (del (upd (upd (upd H a o1) dx o2) a o3) a) dx o4 = upd H dx o4 := by
  funext b
  by_cases hb : b = dx
  · subst hb; rw [upd_same, upd_same]
  · rw [upd_ne hb, upd_ne hb]
    by_cases hba : b = a
    · subst hba; rw [del_same, ha]
    · rw [del_ne hba, upd_ne hba, upd_ne hb, upd_ne hba]
theorem takesN {X : Cx} : L2N.Takes X (fun _ _ _ _ => False) := fun _ _ ⟨_, _, _, _, _, _, _, _, _, _, _, _, _, _, _, _, w⟩ => w.elim
/-- an own error made (its __init__ is a def): its context is None -/
theorem pmkN {X : Cx} {CX : CXT} {x : Str} {C fI : Addr} {k : Nat} {fd : FuncData} {ps : List Str} {sp : Sp} {e : Expr} {es : List Expr} {ta : TA} {p pos : Pos} (T : OexC X.K C)
    (iC : PySem.W.findIn X.K (.ref C) "__init__" = some (some (.ref fI))) (tI : PySem.W.typeIn X.K (.ref fI) = some (.type "function")) (Fi : FnOk X.prog X.w X.K X.mg X.base CX k fI fd ps sp) (hr : Room (k + 1) X.A) (hb : Binds X.K fd ps [])
    (hx : Passes CX X (fun _ _ _ => False)) (hg : Gl X x) (hm : X.mg x = some (.ref C)) (ha : PA X (e :: es) ta) (hdb : (x == ("__debug__" : Str)) = false) (he : starEach (e :: es) X.env = (false, eval e X.env) :: starEach es X.env) (hpl : (backTo pos (starEach es X.env)).any (·.1) = false) :
    L2N.PMk X (.Call (.Name x p) (e :: es) [] pos) (tMkO C sp [] ta) := fun pins s σ H Q inv want => by
  obtain ⟨_, _, _, _, bm, _, _, _, _, _, _, _, _, _, _, clsAt, vem⟩ := T.cls
  refine wpAny_Call_Name_kw (ld_glob inv hg hm (PySem.W.callWith_K (h₀ := X.base) inv.ok.mod.kin T.kC (thn (ha.run pos pins s σ H _ inv want) fun us z ⟨vs, G, j, rel, few, next⟩ => ⟨j.kIn, ?_⟩) he hpl) hdb)
  show wpAny _ _ (call (.ref C) us) _ _ _
  obtain ⟨old, gs, dw, tks, sys⟩ := z
  obtain ⟨A, hA⟩ : ∃ A, A = old.objs.size + 1 := ⟨_, rfl⟩
  obtain ⟨mid, hmid⟩ : ∃ mid, mid = (old.push (PySem.W.kdv_tup us)).push (PySem.HandSPX.excO C old.objs.size) := ⟨_, rfl⟩
  have le : old.objs.size ≤ A := by omega
  have q := next A (j.hok.fresh le)
  rw [List.append_nil] at q
  have kept : ∀ b o, old.get? b = some o → mid.get? b = some o := fun b o y => by rw [hmid]; exact Heap.get?_push_of_some _ (Heap.get?_push_of_some _ y)
  have at_ : mid.get? A = some (PySem.HandSPX.excO C old.objs.size) := by rw [hmid, hA]; heap_get
  have j2 : Inv X pins σ (upd G A (exo A C none)) ⟨mid, gs, dw, tks, sys⟩ := j.laid (t' := tks) (a := A) (o := exo A C none) (h' := mid) kept le (exo_ok at_)
  have rel2 : Vals (V.ref A :: vs) (Value.ref A :: us) := .cons rfl rel
  have len : us.length ≤ sizeLine := by
    have := Paired.length rel
    rw [sizeLine_eq]
    omega
  have bnd := hb ⟨mid, gs, dw, tks, sys⟩ (Value.ref A :: us) j2.kIn (by
    have y := rel2.length
    rw [Fi.len _ _ _ _ q] at y
    rw [List.append_nil]
    exact y.symm)
  rw [List.append_nil] at bnd
  have run := Fi.run (X.A.under (.builtin "type.__call__" ⟨.ref C :: us, []⟩)) X.stack _ _ ⟨Value.ref A :: us, []⟩ (Value.ref A :: us) _ _ (fun _ _ _ => False) (hr.make C us []) (j2.env0.make C us []) bnd rel2 q
  subst hmid hA
  refine wpAny_call (PySem.HandSPX.call_own PySem.F.excBase_ValueError (fun Y => PySem.HandSPX.refsVE_contains Y bm vem) (j.kIn _ _ clsAt) (PySem.W.looks_findIn j.kIn iC) (fun self => PySem.W.bind_fn j.kIn self tI) len (codeAny_mono run fun r z out => ?_))
  match r, out with
  | .error er, out => exact hx pins σ _ _ er z j2 out
  | .ok (.ret u), ⟨v, G2, sys2, bare2, un2, hok2, rv, ev, d, fs, ea, ed, dn, fin⟩ =>
    subst ev
    obtain ⟨h2, g2, dw2, tk2, os2⟩ := z
    obtain ⟨t0, B, jB, kB, gB, obj, none⟩ := mk_end0 (d2 := dw2) (t2 := tk2) j le kept un2 hok2 sys2 bare2 ea ed dn
    exact ⟨rv, _, _, _, ⟨B, g2, dw2, tk2, os2⟩, _, .ref C, some d, rfl, jB, kB, gB, obj, ⟨rfl, rfl, fun vs y => by cases y; rfl⟩, rfl, rfl, none, rfl, bare2, raises_own T.exC T.tyC, fin⟩
  | .ok .next, out => exact out.elim
  | .ok .brk, out => exact out.elim
  | .ok .cont, out => exact out.elim
theorem ds_raiseX {G : Gx} {δ : Env} {E : DE} {k : Nat} {x fld : Str} {C : Addr} {e : Expr} {p pos' pos : Pos} (M : ErrC G.X.prog G.X.w G.X.K G.X.mg G.X.base x fld C) (hr : Room k G.X.A) (hk : 2 ≤ k) (hc : G.X.calm = true) (tk : L2N.Takes G.X G.W)
    (h : dgs G [e] δ fun as δ1 => ∃ d, as = [.v d] ∧ G.Ξ (.mk C [fld] [d]) δ1) (hg : Gl G.X x) (ha : PA G.X [e] (wes G.X [e]))
    (hdb : (x == ("__debug__" : Str)) = false) (he : starEach [e] G.X.env = (false, eval e G.X.env) :: starEach [] G.X.env) (hpl : (backTo pos' (starEach [] G.X.env)).any (·.1) = false) :
    ds G (.Raise (some (.Call (.Name x p) [e] [] pos')) none pos) δ E := fun σ I H T y f => by
  obtain ⟨fI, fd, self, arg, h1, h2, h3, h4⟩ := M.ini
  refine (L2N.ps_raise hc tk (pmkN M.T h1 h2 h3 (hr.mono hk) h4 (fun pins σ H s e s' I c => L2N.passes_call (W := fun _ _ _ _ => False) takesN (fun _ _ _ _ h => h) pins σ H s e s' I c) hg M.m ha hdb he hpl)).to ?_
  refine h σ I H y f.xc _ fun as δ1 vs I1 H1 ⟨d, e1, hΞ⟩ y1 ar g1 => ?_
  subst e1
  obtain ⟨u, r', rfl, q1, q2⟩ := ar
  cases (show _ = _ from q2)
  refine ⟨show 1 ≤ 1000 by decide, fun a hna => ⟨a, u, rfl, upd_same, fun dx hdx hne => ⟨rfl, dx, [(fld, u)], upd_same, ?_, ?_, ?_⟩⟩⟩
  · rw [upd_ne hne, upd_same]
  · rw [upd_ne hne] at hdx; exact hdx
  · rw [upd_ne hne] at hdx
    rw [upd_del hna hne]
    have hi : I1 dx = none := le_none y1.sub hdx
    have lh : ∀ b o, H1 b = some o → upd H1 dx (.xd [(fld, u)]) b = some o := fun b o hb => by rw [upd_ne (ne_of_none hb hdx)]; exact hb
    have lo : Le I1 (upd I1 dx (.xd [(fld, u)])) := Le.new hi
    have s2 : Le (upd I1 dx (.xd [(fld, u)])) (upd H1 dx (.xd [(fld, u)])) := fun b o hb => by
      by_cases e : b = dx
      · subst e; rw [upd_same] at hb ⊢; exact hb
      · rw [upd_ne e] at hb ⊢; exact y1.sub _ _ hb
    have nw : ∀ b o, H1 b = some o → I1 b = none → upd I1 dx (.xd [(fld, u)]) b = none := fun b o hb n => by rw [upd_ne (ne_of_none hb hdx)]; exact n
    exact f.xc _ δ1 σ _ _ _ _ hΞ (y1.grow lo s2 lh nw) (g1.trans (Goes.grow lo lh nw) y1.sub) ⟨rfl, dx, _, rfl, upd_same, rfl, ⟨u, [], rfl, Rep.mono lo _ _ q1, rfl⟩⟩
/-! ### try: clauses with and without a name -/
/-- the ends of a suite whose name is taken away behind it -/
def unsl (i : Nat) (D : Ends) : Ends := ⟨fun σ H => D.nx (σ.set i none) H, D.rt, fun σ H => D.bk (σ.set i none) H, fun σ H => D.ct (σ.set i none) H⟩
abbrev Wish := Addr → Value → Option Addr → TS
inductive Clz (X : Cx) : ExceptHandler → Value → Wish → Prop where
  | bare {x : Str} {c : Value} {ts : Wish} {s0 : Stmt} {su : List Stmt} {q1 q2 : Pos} (nm : Names X x c) (ok : ∀ (a : Addr) (oe : Obj) (k : Value) (d : Option Addr) (pn : List (Addr × Obj)), L2N.Zn k d oe → (∃ vs, oe.data = .fields vs) → PSs (X.suite a ((a, oe) :: pn)) (s0 :: su) (ts a k d)) :
      Clz X (.ExceptHandler (some (.Name x q1)) none (s0 :: su) q2) c ts
  | named {x n : Str} {i : Nat} {c : Value} {ts : Wish} {s0 : Stmt} {su : List Stmt} {q1 q2 : Pos} (nm : Names X x c) (at_ : X.N[i]? = some n) (lo : X.env.kindOf n = some .local)
      (ok : ∀ (a : Addr) (oe : Obj) (k : Value) (d : Option Addr) (pn : List (Addr × Obj)), L2N.Zn k d oe → (∃ vs, oe.data = .fields vs) → PSs (X.suite a ((a, oe) :: pn)) (s0 :: su) (ts a k d)) :
      Clz X (.ExceptHandler (some (.Name x q1)) (some n) (s0 :: su) q2) c (fun a k d D σ H => ts a k d (unsl i D) (σ.set i (some (.ref a))) H)
inductive Clzs (X : Cx) : List ExceptHandler → List (Value × Wish) → Prop where
  | nil : Clzs X [] []
  | cons {h : ExceptHandler} {c : Value} {wi : Wish} {hs : List ExceptHandler} {l : List (Value × Wish)} (z : Clz X h c wi) (r : Clzs X hs l) : Clzs X (h :: hs) ((c, wi) :: l)
theorem ps_clz {X : Cx} {body : List Stmt} {h0 : ExceptHandler} {hs : List ExceptHandler} {l : List (Value × Wish)} {pos : Pos} {tb : WX → TS} {Wo : WX} (st : X.stack = X.env :: X.outer) (fr : X.env.frame = some X.env.locals) (nd : X.N.Nodup) (tk : L2N.Takes X Wo)
    (hb : ∀ (W : WX) (pn : List (Addr × Obj)) (xe : Value → Shared → Prop), L2N.Takes (X.tr pn xe) W → PassesOwn (model X.prog X.w) X.A X.env xe → PSs (X.tr pn xe) body (tb W)) (cl : Clzs X (h0 :: hs) l) :
    PS X (.Try body (h0 :: hs) [] [] pos) (fun D σ H => tb (wMany X.K Wo D l) D σ H) := by
  refine ⟨fun pins s σ H D inv want => ?_⟩
  have okX := inv.ok
  refine wpAny_Try_except (wpAny_mono ((hb (wMany X.K Wo D l) (X.pn ++ pins) _ (fun u sz caught => ?_) PassesOwn.looking).run [] s σ H D (inv.toTry _) want) (fun r sz out => ?_) fun _ _ he => he)
  · obtain ⟨a, B, sJ, pj, τ, G, k, d, rfl, j0, nb, up, sky, fresh, os, ag, wish⟩ := caught
    have j := Inv.ofTry j0 okX
    have sky2 : L2.Sky B (X.env :: X.outer) a (L2N.Zn k d) X.env.locals sz.heap := by
      rw [← st]
      exact sky
    refine L2N.Sky.land L2N.Zn.steady (by rw [okX.frames, st]) fr sky2 fun g1 fly up1 => ?_
    have j1 : Inv X pins τ G { sz with heap := g1 } := Inv.landed j nb fly.1 (up.trans up1) os ag
    obtain ⟨ob, vs, obAt, obZ, obF⟩ := fly.there
    have out : a ∉ frs (X.env :: X.outer) := fun hm => by
      obtain ⟨_, o2, e2, no⟩ := (fly.2.2.1).mem hm
      rw [obAt] at e2
      cases e2
      exact no _ obF
    have out1 : a ≠ X.env.locals := fun z => out (List.mem_filterMap.mpr ⟨_, List.mem_cons_self, by rw [fr, z]⟩)
    have out2 : a ∉ X.fs := fun hm => by
      obtain ⟨e, e1, e2⟩ := List.mem_filterMap.mp hm
      exact out (List.mem_filterMap.mpr ⟨_, List.mem_cons_of_mem _ e1, e2⟩)
    have su1 := Inv.suite j1 obAt obF fresh out1 out2
    suffices go : ∀ {hs' : List ExceptHandler} {l' : List (Value × Wish)}, Clzs X hs' l' → wMany X.K Wo D l' k d τ G → wpAny (model X.prog X.w) X.A (handleBy (.ref a) X.env hs') (SP X pins D) X.xe { sz with heap := g1 } from go cl wish
    intro hs' l' cz
    induction cz with
    | nil =>
      intro wi
      refine wpAny_handleBy_nil ?_
      obtain ⟨_, _, _, oe, us, tb1, _, _, oeAt, _, oeF, f1, _⟩ := id fly
      unfold PySem.passOn
      refine wpAny_bind (wpAny_field oeAt oeF f1 ?_)
      rw [if_neg (by simp)]
      have last : wpAny (model X.prog X.w) X.A (setFlight (.ref a) X.env.frame) (fun _ s4 => wpAny (model X.prog X.w) X.A (throw (.ref a) : Sem Flow) (SP X pins D) X.xe s4) X.xe { sz with heap := g1 } := by
        rw [fr]
        exact HandSPX.setFlight_upZ fly fun g2 hh up2 => wpAny_throw (tk _ _ ⟨a, B, sJ, pins, τ, G, k, d, rfl, j, nb, (up.trans up1).trans up2, .inr (.inr (by rw [st]; exact hh)), fresh, os, ag, wi⟩)
      first
        | exact wpAny_bind (wpAny_pure (wpAny_bind last))
        | exact wpAny_bind last
    | @cons h c wi2 hs2 l2 z r ih =>
      intro wi
      obtain ⟨b, tst, yes, no⟩ := wi
      have lk := PySem.W.exm_one (M := model X.prog X.w) j1.kIn (fun A Q E s kk q => wpAny_typeOf_ref (kk _ _ obAt) (by rw [obZ.1]; exact q)) tst
      have tested : ∀ {x : Str} {q1 : Pos} {Q E : Value → Shared → Prop}, Names X x c → Q c { sz with heap := g1 } → wpAny (model X.prog X.w) (X.A.mark (some (.ref a))) (eval (.Name x q1) X.env) Q E { sz with heap := g1 } := fun {x q1 Q E} nm q => by
        obtain ⟨n1, n2, n3 | ⟨n3, n4, n5⟩⟩ := nm
        · exact ld_glob (X := X.suite a ((a, ob) :: (X.pn ++ pins))) su1 n1 n3 q n2
        · exact ld_blt (X := X.suite a ((a, ob) :: (X.pn ++ pins))) su1 n1 n3 n4 q n5 n2
      cases z with
      | bare nm ok =>
        refine wpAny_handleBy_cons (codeAny_handlers_test (tested nm (lk.here ?_))) (by intro q; cases q)
        cases b with
        | false => exact ih (no rfl)
        | true =>
          refine codeAny_handlers_suite (HandSPX.lands_againZ fly fun g2 fly2 up2 => ?_)
          have j2 : Inv X pins τ G { sz with heap := g2 } := Inv.landed j nb fly2.1 ((up.trans up1).trans up2) os ag
          obtain ⟨ob2, vs2, at2, z2, f2⟩ := fly2.there
          refine wpAny_mono ((ok a ob2 k d (X.pn ++ pins) z2 ⟨_, f2⟩).run [] _ _ G _ (Inv.suite j2 at2 f2 fresh out1 out2) (yes rfl a fresh)) (fun r s6 e => ?_) fun _ _ w => w.elim
          cases r with
          | next => obtain ⟨_, _, s', q⟩ := e; exact ⟨_, _, s'.unsuite okX, q⟩
          | brk => obtain ⟨_, _, s', q⟩ := e; exact ⟨_, _, s'.unsuite okX, q⟩
          | cont => obtain ⟨_, _, s', q⟩ := e; exact ⟨_, _, s'.unsuite okX, q⟩
          | ret u => obtain ⟨_, _, _, s', r', q⟩ := e; exact ⟨_, _, _, s'.unsuite okX, r', q⟩
      | @named x n i _ ts s0 su q1 q2 nm at_ lo ok =>
        refine wpAny_handleBy_cons (codeAny_handlers_test (tested nm (lk.here ?_))) (by intro q; cases q)
        cases b with
        | false => exact ih (no rfl)
        | true =>
          refine codeAny_handlers_suite_as (HandSPX.lands_againZ fly fun g2 fly2 up2 => ?_)
          have j2 : Inv X pins τ G { sz with heap := g2 } := Inv.landed j nb fly2.1 ((up.trans up1).trans up2) os ag
          obtain ⟨ob2, vs2, at2, z2, f2⟩ := fly2.there
          refine store_ok (X := X.suite a ((a, ob2) :: (X.pn ++ pins))) (v := .ref a) (Inv.suite j2 at2 f2 fresh out1 out2) nd at_ (.inl lo) rfl (fun s5 in5 => ?_) (.inr lo)
          refine wpAny_mono ((ok a ob2 k d (X.pn ++ pins) z2 ⟨_, f2⟩).run [] s5 _ G _ in5 (yes rfl a fresh)) (fun r s6 e => ?_) fun _ _ w => w.elim
          cases r with
          | next => obtain ⟨_, _, s', q⟩ := e; exact gone_ok (s'.unsuite okX) nd at_ lo fun s7 j7 => ⟨_, _, j7, q⟩
          | brk => obtain ⟨_, _, s', q⟩ := e; exact gone_ok (s'.unsuite okX) nd at_ lo fun s7 j7 => ⟨_, _, j7, q⟩
          | cont => obtain ⟨_, _, s', q⟩ := e; exact gone_ok (s'.unsuite okX) nd at_ lo fun s7 j7 => ⟨_, _, j7, q⟩
          | ret u => obtain ⟨_, _, _, s', r', q⟩ := e; exact gone_ok (s'.unsuite okX) nd at_ lo fun s7 j7 => ⟨_, _, _, j7, r', q⟩
  · cases r with
    | next => obtain ⟨_, _, j', q⟩ := out; exact wpAny_execs_nil ⟨_, _, Inv.ofTry j' okX, q⟩
    | brk => obtain ⟨_, _, j', q⟩ := out; exact ⟨_, _, Inv.ofTry j' okX, q⟩
    | cont => obtain ⟨_, _, j', q⟩ := out; exact ⟨_, _, Inv.ofTry j' okX, q⟩
    | ret u => obtain ⟨_, _, _, j', r', q⟩ := out; exact ⟨_, _, _, Inv.ofTry j' okX, r', q⟩
/-! ### try, deep -/
def clsOf : Exn → Value
  | .mk C _ _ => .ref C
  | .plain c => c
def exD (a : Addr) (d : Option Addr) : Exn → D
  | .mk _ ks ds => .xex a (d.getD 0) ks ds
  | .plain _ => .raw (.ref a)
abbrev Gx.suite (G : Gx) (a : Addr) (oe : Obj) (pn : List (Addr × Obj)) : Gx := ⟨G.X.suite a ((a, oe) :: pn), fun _ _ _ _ => False, fun _ _ => False⟩
def hasD : Exn → Option Addr → Prop
  | .mk _ _ _, d => ∃ dx, d = some dx
  | .plain _, d => d = none
structure Caught (x : Exn) (a : Addr) (oe : Obj) (d : Option Addr) : Prop where
  z : L2N.Zn (clsOf x) d oe
  f : ∃ vs, oe.data = .fields vs
  d : hasD x d
abbrev unslE (i : Nat) (E : DE) : DE := ⟨fun δ => E.nx (δ.set i .no), E.rt, fun δ => E.bk (δ.set i .no), fun δ => E.ct (δ.set i .no)⟩
inductive Hand (G : Gx) (E : DE) : List ExceptHandler → (Exn → Env → Prop) → Prop where
  | nil : Hand G E [] G.Ξ
  | bare {x : Str} {c : Value} {s0 : Stmt} {su : List Stmt} {q1 q2 : Pos} {hs : List ExceptHandler} {P : Exn → Env → Prop} (nm : Names G.X x c) (r : Hand G E hs P) :
      Hand G E (.ExceptHandler (some (.Name x q1)) none (s0 :: su) q2 :: hs) (fun ex δ' => ∃ b, PySem.W.exmOne G.X.K (clsOf ex) c = some b ∧ if b = true then (∀ a oe d pn, Caught ex a oe d → dsb (G.suite a oe pn) (s0 :: su) δ' E) else P ex δ')
  | named {x n : Str} {i : Nat} {c : Value} {s0 : Stmt} {su : List Stmt} {q1 q2 : Pos} {hs : List ExceptHandler} {P : Exn → Env → Prop} (nm : Names G.X x c) (at_ : Nth G.X.N i n) (lo : G.X.env.kindOf n = some .local) (r : Hand G E hs P) :
      Hand G E (.ExceptHandler (some (.Name x q1)) (some n) (s0 :: su) q2 :: hs) (fun ex δ' => ∃ b, PySem.W.exmOne G.X.K (clsOf ex) c = some b ∧ if b = true then (∀ a oe d pn, Caught ex a oe d → Put δ' i (.val (exD a d ex)) fun δ2 => dsb (G.suite a oe pn) (s0 :: su) δ2 (unslE i E)) else P ex δ')
theorem exn_cls {K : PySem.W.Frag} {I H : Hp} {cls : Value} {d : Option Addr} {x : Exn} (h : ExnR K I H cls d x) : cls = clsOf x := by
  cases x with
  | mk C ks ds => exact h.1
  | plain c => exact h.1
theorem exn_d {K : PySem.W.Frag} {I H : Hp} {cls : Value} {d : Option Addr} {x : Exn} (h : ExnR K I H cls d x) : hasD x d := by
  cases x with
  | mk C ks ds => obtain ⟨_, dx, _, e, _⟩ := h; exact ⟨dx, e⟩
  | plain c => exact h.2
theorem exn_rep {K : PySem.W.Frag} {I H : Hp} {cls : Value} {d : Option Addr} {x : Exn} (a : Addr) (h : ExnR K I H cls d x) : Rep K I (exD a d x) (.ref a) := by
  cases x with
  | mk C ks ds =>
    obtain ⟨_, dx, fs, e, h3, h4, h5⟩ := h
    subst e
    exact ⟨fs, rfl, h3, h4, h5⟩
  | plain c => exact rfl
theorem hand_l {G : Gx} {E : DE} {hs : List ExceptHandler} {P : Exn → Env → Prop} (h : Hand G E hs P) : ∃ l, Clzs G.X hs l ∧ ∀ (δ : Env) (I H : Hp) (T : Ends), SFut G E δ I H T →
    ∀ x δ' σ' I' H' cls d, P x δ' → EnvR G.X.K I' H' σ' δ' → Goes (Own δ) (Own δ') I H I' H' → ExnR G.X.K I' H' cls d x → wMany G.X.K G.W T l cls d σ' H' := by
  induction h with
  | nil => exact ⟨[], .nil, fun δ I H T f x δ' σ' I' H' cls d p y g r => f.xc x δ' σ' I' H' cls d p y g r⟩
  | @bare x c s0 su q1 q2 hs P nm r ih =>
    obtain ⟨l, cl, go⟩ := ih
    refine ⟨(c, fun a k d D σ H => ∀ oe pn, L2N.Zn k d oe → (∃ vs, oe.data = .fields vs) → wb (G.X.suite a ((a, oe) :: pn)) (s0 :: su) D σ H) :: l, .cons (.bare nm fun a oe k d pn hz hf => ⟨fun pins s σ H D I w => w oe pn hz hf pins s I⟩) cl, ?_⟩
    rintro δ I H T f ex δ' σ' I' H' cls d ⟨b, tst, w⟩ y g r
    have ec := exn_cls r
    refine ⟨b, by rw [ec]; exact tst, fun hb a _ oe pn hz hf => ?_, fun hb => ?_⟩
    · rw [if_pos hb] at w
      have f2 := f.go g y.sub
      exact w a oe d pn ⟨by rw [← ec]; exact hz, hf, exn_d r⟩ σ' I' H' T y ⟨f2.nx, f2.rt, f2.bk, f2.ct, fun _ _ _ _ _ _ _ z => z.elim⟩
    · rw [if_neg (by rw [hb]; exact Bool.false_ne_true)] at w
      exact go δ I H T f ex δ' σ' I' H' cls d w y g r
  | @named x n i c s0 su q1 q2 hs P nm at_ lo r ih =>
    obtain ⟨l, cl, go⟩ := ih
    refine ⟨(c, fun a k d D σ H => (fun (D : Ends) (σ : L2.St) (H : Hp) => ∀ oe pn, L2N.Zn k d oe → (∃ vs, oe.data = .fields vs) → wb (G.X.suite a ((a, oe) :: pn)) (s0 :: su) D σ H) (unsl i D) (σ.set i (some (.ref a))) H) :: l,
      .cons (.named (ts := fun a k d D σ H => ∀ oe pn, L2N.Zn k d oe → (∃ vs, oe.data = .fields vs) → wb (G.X.suite a ((a, oe) :: pn)) (s0 :: su) D σ H) nm at_.eq lo fun a oe k d pn hz hf => ⟨fun pins s σ H D I w => w oe pn hz hf pins s I⟩) cl, ?_⟩
    rintro δ I H T f ex δ' σ' I' H' cls d ⟨b, tst, w⟩ y g r
    have ec := exn_cls r
    refine ⟨b, by rw [ec]; exact tst, fun hb a _ oe pn hz hf => ?_, fun hb => ?_⟩
    · rw [if_pos hb] at w
      have f2 := f.go g y.sub
      have lift : ∀ {δ2 : Env} {I2 H2 : Hp}, Goes (Own (δ'.set i (.val (exD a d ex)))) (Own δ2) I' H' I2 H2 → Goes (Own δ') (Own (δ2.set i .no)) I' H' I2 H2 := fun {δ2 I2 H2} g2 =>
        ⟨g2.le, fun b o hb hi np => g2.keep b o hb hi fun hp => np (own_cons_val.mp (own_set hp)), fun b hb => (g2.new b (own_forget hb)).imp (fun z => own_cons_val.mp (own_set z)) id⟩
      have liftr : ∀ {r : DV} {δ2 : Env} {I2 H2 : Hp}, Goes (Own (δ'.set i (.val (exD a d ex)))) (Own (r :: δ2)) I' H' I2 H2 → Goes (Own δ') (Own (r :: δ2)) I' H' I2 H2 := fun {r δ2 I2 H2} g2 =>
        ⟨g2.le, fun b o hb hi np => g2.keep b o hb hi fun hp => np (own_cons_val.mp (own_set hp)), fun b hb => (g2.new b hb).imp (fun z => own_cons_val.mp (own_set z)) id⟩
      exact w a oe d pn ⟨by rw [← ec]; exact hz, hf, exn_d r⟩ (σ'.set i (some (.ref a))) I' H' (unsl i T) ((y.cons_val (exn_rep a r)).set i)
        ⟨fun σ2 δ2 I2 H2 a1 b1 c1 => f2.nx _ _ I2 H2 a1 (b1.forget i none) (lift c1), fun r v σ2 δ2 I2 H2 a1 b1 c1 => f2.rt r v σ2 δ2 I2 H2 a1 b1 (liftr c1), fun σ2 δ2 I2 H2 a1 b1 c1 => f2.bk _ _ I2 H2 a1 (b1.forget i none) (lift c1), fun σ2 δ2 I2 H2 a1 b1 c1 => f2.ct _ _ I2 H2 a1 (b1.forget i none) (lift c1), fun _ _ _ _ _ _ _ z => z.elim⟩
    · rw [if_neg (by rw [hb]; exact Bool.false_ne_true)] at w
      exact go δ I H T f ex δ' σ' I' H' cls d w y g r
theorem ds_try {G : Gx} {δ : Env} {E : DE} {body : List Stmt} {h0 : ExceptHandler} {hs : List ExceptHandler} {P : Exn → Env → Prop} {pos : Pos} (hd : Hand G E (h0 :: hs) P) (st : G.X.stack = G.X.env :: G.X.outer) (fr : G.X.env.frame = some G.X.env.locals) (nd : G.X.N.Nodup) (tk : L2N.Takes G.X G.W)
    (h : ∀ (W : WX) (pn : List (Addr × Obj)) (xe : Value → Shared → Prop), L2N.Takes (G.X.tr pn xe) W → PassesOwn (model G.X.prog G.X.w) G.X.A G.X.env xe → dsb ⟨G.X.tr pn xe, W, P⟩ body δ E) : ds G (.Try body (h0 :: hs) [] [] pos) δ E := fun σ I H T y f => by
  obtain ⟨l, cl, go⟩ := hand_l hd
  refine (ps_clz (tb := fun W D σ H => ∀ (pn : List (Addr × Obj)) (xe : Value → Shared → Prop), L2N.Takes (G.X.tr pn xe) W → PassesOwn (model G.X.prog G.X.w) G.X.A G.X.env xe → wb (G.X.tr pn xe) body D σ H) st fr nd tk (fun W pn xe t p => ⟨fun pins s σ H D I w => w pn xe t p pins s I⟩) cl).to ?_
  exact fun pn xe t p => h _ pn xe t p σ I H T y ⟨f.nx, f.rt, f.bk, f.ct, fun x δ' σ' I' H' cls d a b c e => go δ I H T f x δ' σ' I' H' cls d a b c e⟩
end Zd
/-! Deep data: what a suite asks of the caught exception. -/
namespace Zd
open PySem L2
theorem look_rep {K : PySem.W.Frag} {I : Hp} {n : Str} {d : D} : ∀ {fs : List (Str × V)} {ds : List D}, Reps K I ds (fs.map (·.2)) → ((fs.map (·.1)).zip ds).lookup n = some d → ∃ v, fs.lookup n = some v ∧ Rep K I d v
  | [], _, _, h => by simp at h
  | (f, v) :: fs, ds, r, h => by
    cases ds with
    | nil => simp at h
    | cons d0 ds =>
      obtain ⟨u, r', e, r1, r2⟩ := r
      simp only [List.map_cons, List.cons.injEq] at e
      obtain ⟨rfl, rfl⟩ := e
      rw [List.map_cons, List.zip_cons_cons, List.lookup_cons] at h
      rw [List.lookup_cons]
      cases hn : n == f with
      | true =>
        rw [hn] at h
        cases h
        exact ⟨v, rfl, r1⟩
      | false =>
        rw [hn] at h
        exact look_rep r2 h
theorem de_xf {G : Gx} {a dd C : Addr} {oe : Obj} {pn : List (Addr × Obj)} {δ : Env} {i : Nat} {x n : Str} {p pos : Pos} {ks : List Str} {ds : List D} {d : D} {Φ : DV → Env → Prop} (hi : Nth G.X.N i x) (hδ : δ[i]? = some (.val (.xex a dd ks ds)))
    (c : Caught (.mk C ks ds) a oe (some dd)) (T : XfC G.X.K C) (hno : PySem.W.findIn G.X.K (.ref C) n = some none) (hl : (ks.zip ds).lookup n = some d) (h : Φ (.val d) δ) (hv : Vis G.X.env.scope x) (h1 : (x == ("__debug__" : Str)) = false) (h2 : (x == ("__classdict__" : Str)) = false)
    (hb : attributeBase (.Name x p) n G.X.env (eval (.Name x p) G.X.env) = eval (.Name x p) G.X.env) : de (G.suite a oe pn) (.Attribute (.Name x p) n pos) δ Φ := fun σ I H y f Q q =>
  (pe_xf (X := G.X) T hno c.z.zc c.f PE.of hb).to (by
    obtain ⟨v, e1, e2⟩ := y.val i _ hδ
    obtain ⟨fs, rfl, e3, e4, e5⟩ := e2
    subst e4
    obtain ⟨w, l1, l2⟩ := look_rep e5 hl
    exact we_slot (X := (G.suite a oe pn).X) hi hv h1 h2 e1 ⟨rfl, rfl, dd, fs, w, rfl, y.sub _ _ e3, l1, q _ δ w I H h (y.cons_val l2) (Goes.refl.sub fun a z => own_cons_val.mp z)⟩)
end Zd
/-! isinstance of a caught exception that has its dict. -/
namespace Zx
open PySem PySem.W PySem.Spec PySem.Calls PyProof.Rows
section
variable {prog : Program} {w : World} {A : Around} {E : Value → Shared → Prop} {s : Shared} {K : Frag} {x D : Addr} {ox od : Obj}
theorem cls_of {Q : Option Value → Shared → Prop} (C : L2.ExcC K D) (X : K.In s.heap) (J : InstAt s.heap x ox D (some od)) (done : Q (some (.ref D)) { s with toks := s.toks + 1 }) : wpAny (model prog w) A (getAttr? (.ref x) "__class__") Q E s := by
  have found : findObj K D (some od) "__class__" = some (.bind (.builtin "getset_descriptor.__get__") (.builtin "object.__class__")) := findObj_data (by obtain ⟨cd, hc, _⟩ := any_some C.hd; rw [hc]; rfl) C.ha C.hn C.ht
  obtain ⟨hp, g, dr, tk, o1⟩ := s
  have ty := J.type (M := model prog w)
  have sb : Looks (model prog w) hp (isInstance (.ref x) (.type "BaseException")) true := ty.andThen (looks_subIn X C.hs)
  have no2 : (Value.builtin "BaseException.__getattribute__" == Value.builtin "object.__getattribute__") = false := by decide +kernel
  unfold getAttr? getAttrBy? getAttrBy
  refine wpAny_bind (wpAny_mkText (wpAny_bind (wpAny_attempt (wpAny_holding (wpAny_bind (ty.at (wpAny_bind ((looks_findIn (M := model prog w) X C.hg).at ?_))))))))
  show wpAny _ _ (if (onTheHeap (Value.ref D) && Value.builtin "BaseException.__getattribute__" == Value.builtin "object.__getattribute__") = true then _ else _) _ _ _
  rw [show (onTheHeap (Value.ref D) && Value.builtin "BaseException.__getattribute__" == Value.builtin "object.__getattribute__") = false by rw [no2]; rfl, if_neg Bool.false_ne_true]
  unfold getAttrByItsOwn hookBefore
  refine wpAny_bind ?_
  rw [if_pos (show onTheHeap (Value.ref D) = true from rfl)]
  refine (looks_findIn (M := model prog w) X C.hk).at (wpAny_bind (wpAny_attempt (wpAny_holding ?_)))
  unfold callGetattribute
  rw [show (false && onTheHeap (Value.builtin "BaseException.__getattribute__")) = false from rfl, if_neg Bool.false_ne_true]
  unfold boundAndCalled
  rw [PySem.F.excAttr_ValueError.ga.bind (.ref x)]
  refine wpAny_bind (wpAny_pure ?_)
  show wpAny _ _ (call (.builtin "BaseException.__getattribute__") [.ref x, .str "__class__" tk]) _ _ _
  refine wpAny_call (codeAny_call_builtin PySem.F.excAttr_ValueError.ga.plain PySem.F.entry_bexc_ga (@check_slot (model prog w) _ _ ⟨hp, g, dr, tk + 1, o1⟩ "BaseException.__getattribute__" "BaseException" "__getattribute__" (.ref x) [.str "__class__" tk] [] _ (by decide +kernel) (by decide +kernel) sb (PySem.F.args_bexc_ga (.ref x) (.str "__class__" tk)) ?_))
  unfold Builtin.«object.__getattribute__»
  refine wpAny_bind (wpAny_of_eq (a := ((Value.ref x : Value), [Value.str "__class__" tk])) (by first | rfl | (simp only [slotArgs]; rfl)) ?_)
  refine wpAny_bind (wpAny_pure (wpAny_bind (ty.at (wpAny_bind ((looks_find (M := model prog w) X J found).at ?_)))))
  show wpAny _ _ (holding [Value.builtin "object.__class__"] (call (.builtin "getset_descriptor.__get__") [.builtin "object.__class__", .ref x, .ref D]) >>= ret) _ _ _
  refine wpAny_bind (wpAny_holding (wpAny_call (class_get (s := ⟨hp, g, dr, tk + 1, o1⟩) (ox := ox) (od := some od) X J C.hm (wpAny_pure ?_))))
  show wpAny _ _ (handedOut (.ref D)) _ _ _
  rw [handedOut_of (v := .ref D) rfl]
  first
    | exact wpAny_pure (wpAny_pure done)
    | exact wpAny_pure done
    | exact wpAny_pure (wpAny_bind (wpAny_pure (wpAny_pure done)))
theorem kitx_d (C : L2.ExcC K D) : KitX K (.ref x) (.ref D) (fun h => InstAt h x ox D (some od)) where
  ty := fun _ _ _ J => J.type
  it := fun _ _ X _ => by
    obtain ⟨cd, e, _⟩ := any_some C.hd
    unfold clsIn at e
    split at e
    · rename_i o1 o2 o3 o4 at_
      intro A1 Q1 E1 s1 kk q
      unfold isType loadHead
      exact wpAny_bind (wpAny_loadPart (kk _ _ (X _ _ at_)) (wpAny_pure q))
    · cases e
  ne := fun h tp dd its n sl X tup => by
    obtain ⟨cd, e, _⟩ := any_some C.hd
    refine Bool.eq_false_iff.mpr fun q => ?_
    obtain rfl : D = tp := Value.ref.inj (beq_iff_eq.mp q)
    unfold clsIn at e
    split at e
    · rename_i o1 o2 o3 o4 at_
      cases (X _ _ at_).symm.trans tup
    · cases e
  ca := fun X J k => cls_of C X J k
end
end Zx
namespace Zd
open PySem L2
/-- isinstance(e, c), e the caught exception (its dict at dd), c a class -/
def Risx (K : PySem.W.Frag) (D a dd : Addr) : List V → Hp → VK → Prop := fun xs H Q => ∃ (c : V) (cv : Value) (b : Bool) (fs : List (Str × V)), xs = [.ref a, c] ∧ (∀ u, RelV c u → u = cv) ∧ PySem.W.kitOne K (.ref D) cv = some b ∧ H dd = some (.xd fs) ∧ Q (.bl b) H
theorem call_isx {X : Cx} {a D dd : Addr} {oe : Obj} {pn : List (Addr × Obj)} (C : ExcC X.K D) (hz : Zc (.ref D) (some dd) oe) (hf : ∃ vs, oe.data = .fields vs) : CallR (X.suite a ((a, oe) :: pn)) (.builtin "isinstance") (Risx X.K D a dd) := by
  intro pins s σ H xs us Q I r h
  obtain ⟨c, cv, b, fs, rfl, hcv, e, ed, q⟩ := h
  cases r with
  | cons rx rr =>
    cases rr with
    | cons rt rr =>
      cases rr
      cases rx
      have ec := hcv _ rt
      subst ec
      obtain ⟨hget, _⟩ := I.pin (a, oe) (List.mem_append.mpr (.inl List.mem_cons_self))
      obtain ⟨vs, hv⟩ := hf
      have hx : ObjOk X.prog X.w H s.heap dd (.xd fs) := I.hok dd _ ed
      obtain ⟨mA, hns, _⟩ := hx
      obtain ⟨od, ho, _⟩ := lookIn_ns hns
      have J : PySem.W.InstAt s.heap a oe D (some od) := ⟨hget, hz.1, by unfold PySem.W.notCls; rw [hv] <;> rfl, by rw [hz.2]; exact ho⟩
      exact PySem.W.kia_one (Zx.kitx_d C) I.kIn J e (fun z => nomatch z) fun tk => ⟨.bl b, H, I.kept (t' := tk) fun _ _ z => z, rfl, q⟩
theorem dr_isx {X : Cx} {a D dd : Addr} {oe : Obj} {pn : List (Addr × Obj)} {ks : List Str} {ds : List Zd.D} {c : V} {cv : Value} {b : Bool} {Ψ : DV → Prop} (cx : Caught (.mk D ks ds) a oe (some dd)) (C : ExcC X.K D) (hcv : ∀ u, RelV c u → u = cv) (hk : PySem.W.kitOne X.K (.ref D) cv = some b) (h : Ψ (.val (.bl b))) :
    DR X.K (wcall (X.suite a ((a, oe) :: pn)) (.builtin "isinstance")) [.xex a dd ks ds, .raw c] Ψ := by
  refine dr_2 (X := X.suite a ((a, oe) :: pn)) fun I H v w s r1 r2 Q q => ?_
  obtain ⟨fs, rfl, e3, e4, e5⟩ := r1
  cases (show _ = _ from r2)
  exact (call_isx C cx.z.zc cx.f).to ⟨c, cv, b, fs, rfl, hcv, hk, s _ _ e3, q _ _ I H h (Res.val s rfl)⟩
/-- the name of an own class, as a value -/
theorem de_cls {G : Gx} {δ : Env} {Φ : DV → Env → Prop} {x : Str} {C : Addr} {pos : Pos} (hm : G.X.mg x = some (.ref C)) (h : Φ (.val (.raw (.ref C))) δ) (hg : Gl G.X x) (hd : (x == ("__debug__" : Str)) = false) : de G (.Name x pos) δ Φ :=
  de_glob (v := .ref C) (u := .ref C) (d := .raw (.ref C)) hm rfl (fun _ => rfl) h hg hd
end Zd
/-! Deep data: slices with two bounds. -/
namespace Zd
open PySem L2
def RslBt (X : Cx) : List V → Hp → VK → Prop := fun vs H Q => ∃ x i j, vs = [x, .int i, .int j] ∧ wsl X x (some i) (some j) H Q
section
variable {G : Gx} {δ : Env} {Φ : DV → Env → Prop} {pos p2 : Pos}
theorem de_slBt {e lo hi : Expr} (h : dgs G [e, lo] δ fun as δ1 => ∃ (a0 : Arg) (i : Int), as = [a0, .v (.int i)] ∧ dgs G [hi] δ1 fun bs δ2 => ∃ (j : Int), bs = [.v (.int j)] ∧ Asked G (RslBt G.X) Φ [a0, .v (.int i), .v (.int j)] δ2) :
    de G (.Subscript e (.Slice (some lo) (some hi) none p2) pos) δ Φ := fun σ I H x f Q q =>
  (pe_slice sl_of PE.of (po_some PE.of) (po_some PE.of)).to (by
    have w : wes G.X [e, lo] σ H fun vs H2 => ∃ x i, vs = [x, .int i] ∧ we G.X hi σ H2 fun z H3 => ∃ j, z = .int j ∧ wsl G.X x (some i) (some j) H3 Q := by
      refine h σ I H x f _ fun as δ1 vs I1 H1 ⟨a0, i, e1, h2⟩ y1 ar g1 => ?_
      subst e1
      obtain ⟨u, r, rfl, q1, u2, r2, rfl, q2, q3⟩ := ar
      cases (show _ = _ from q3)
      cases (show _ = _ from q2)
      refine ⟨u, i, rfl, ?_⟩
      have w2 : wes G.X [hi] σ H1 fun zs H3 => ∃ z, zs = [z] ∧ ∃ j, z = .int j ∧ wsl G.X u (some i) (some j) H3 Q := by
        refine h2 σ I1 H1 y1 (f.go g1 y1.sub) _ fun bs δ2 zs I2 H2 ⟨j, e2, ds, b, hd, hr⟩ y2 ar2 g2 => ?_
        subst e2
        obtain ⟨z, r3, rfl, q4, q5⟩ := ar2
        cases (show _ = _ from q5)
        cases (show _ = _ from q4)
        refine ⟨_, rfl, j, rfl, ?_⟩
        have ar3 : ArgsR G.X.K I2 σ [a0, .v (.int i), .v (.int j)] [u, .int i, .int j] := ⟨u, _, rfl, (ArgsR.mono g2.le [a0] [u] ⟨u, [], rfl, q1, rfl⟩ |> fun ⟨u', r', e', q', _⟩ => by cases e'; exact q'), .int i, _, rfl, rfl, .int j, _, rfl, rfl, rfl⟩
        obtain ⟨I4, bo, rp, hb⟩ := borrow y2 ar3 hd
        obtain ⟨x', i', j', e5, k⟩ := hr I4 H2 _ bo.sub rp Q fun r v I' H' ⟨hf, hΦ⟩ re => by
          obtain ⟨I'', z, g'⟩ := unlent y2 bo hb hf re
          exact q r δ2 v I'' H' hΦ z ((g1.trans g2 y1.sub).trans g' y2.sub)
        cases e5
        exact k
      exact we_mono w2 fun z H3 ⟨z', e3, k⟩ => by cases e3; exact k
    exact we_mono w fun a H1 w1 => we_mono w1 fun b H2 ⟨x', i, e4, k⟩ => by
      cases e4
      exact ⟨i, rfl, we_mono k fun z H3 ⟨j, e5, k5⟩ => ⟨j, e5, k5⟩⟩)
end
theorem dr_slBtL {X : Cx} {Ψ : DV → Prop} {as : List D} {i j : Int} (h : ∀ p, Ψ (.own p (.lst (cutD as (some i) (some j))))) : DR X.K (RslBt X) [.lst as, .int i, .int j] Ψ := fun I H vs s rp Q q => by
  obtain ⟨v, r, rfl, r1, w, r', rfl, r2, u, r'', rfl, r3, r4⟩ := rp
  cases (show _ = _ from r2); cases (show _ = _ from r3); cases (show _ = _ from r4)
  exact ⟨v, i, j, rfl, wsl_lst s r1 h q⟩
theorem dr_slBtT {X : Cx} {Ψ : DV → Prop} {as : List D} {i j : Int} (h : Ψ (.val (.tup (cutD as (some i) (some j))))) : DR X.K (RslBt X) [.tup as, .int i, .int j] Ψ := fun I H vs s rp Q q => by
  obtain ⟨v, r, rfl, r1, w, r', rfl, r2, u, r'', rfl, r3, r4⟩ := rp
  cases (show _ = _ from r2); cases (show _ = _ from r3); cases (show _ = _ from r4)
  exact ⟨v, i, j, rfl, wsl_tup s r1 h q⟩
end Zd
/-! Deep data: x.extend(y). -/
namespace Zd
open PySem L2
section
variable {G : Gx} {δ : Env} {Φ : DV → Env → Prop} {pos : Pos}
theorem de_extend {i : Nat} {y : Str} {py apos : Pos} {q : Addr} {c0 : Cell} {e : Expr} (hi : Nth G.X.N i y) (hδ : δ[i]? = some (.own q c0))
    (h : dgs G [e] δ fun as δ1 => ∃ es ds, as = [.v (.lst es)] ∧ δ1[i]? = some (.own q (.lst ds)) ∧ ds.length + es.length ≤ sizeLine ∧ Put δ1 i (.own q (.lst (ds ++ es))) (Φ (.val .non))) (hq : ∃ ds, c0 = .lst ds) (hv : Vis G.X.env.scope y)
    (hd : (y == ("__debug__" : Str)) = false := by decide) (hcd : (y == ("__classdict__" : Str)) = false := by decide)
    (hbase : attributeBase (.Name y py) "extend" G.X.env (eval (.Name y py) G.X.env) = eval (.Name y py) G.X.env := by rfl)
    (hfew : ((backTo pos (starEach [e] G.X.env)).all (fun x => !x.1) && (backToKw pos (keywordEach [] G.X.env)).all (fun x => x.1.isSome) && decide ([e].length + ([] : List Keyword).length + (if ([] : List Keyword).isEmpty then 0 else 1) < 30)) = true := by rfl)
    (hline : (apos.endLine == pos.line) = true := by rfl) (hs : starEach [e] G.X.env = (false, eval e G.X.env) :: starEach [] G.X.env := by rfl) (hplain : (backTo pos (starEach [] G.X.env)).any (·.1) = false := by rfl) :
    de G (.Call (.Attribute (.Name y py) "extend" apos) [e] [] pos) δ Φ := fun σ I H z f Q k =>
  (pe_bm PySem.F.plainAttrs_list PySem.F.slot_list_extend PySem.F.type_list_extend mt_extend PE.of (pa_cons PE.of pa_nil hs) hbase hfew hline hs hplain).to (by
    obtain ⟨h1, h2, h3⟩ := z.own i q c0 hδ
    obtain ⟨ds0, rfl⟩ := hq
    refine we_slot hi hv hd hcd h1 ⟨.inl ⟨rfl, ?_⟩, ?_⟩
    · obtain ⟨xs, g1, _⟩ := h3
      exact ⟨xs, SqL.of g1⟩
    · refine we_mono (h σ I H z f (fun vs H1 => ∃ v, vs = [v] ∧ rExtend (.ref q) [v] H1 Q) fun as δ1 vs I1 H1 ⟨d, ds, has, hc, hz, hΦ⟩ y1 ar g => ?_) fun v H1 ⟨u, e, h⟩ => by
        cases e
        exact h
      subst has
      obtain ⟨u, r, rfl, e1, e2⟩ := ar
      cases (show _ = _ from e2)
      obtain ⟨b, zs, rfl, b1, b2⟩ := (show Rep G.X.K I1 (.lst d) u from e1)
      obtain ⟨g1, g2, g3⟩ := y1.own i q _ hc
      obtain ⟨xs, x1, x2⟩ := g3
      refine ⟨_, rfl, q, b, xs, zs, rfl, rfl, x1, y1.sub _ _ b1, by rw [x2.length, b2.length]; exact hz, ?_⟩
      have y2 := y1.upd (c' := .lst (ds ++ d)) (o := .lst (xs ++ zs)) hc ⟨_, upd_same, x2.append b2⟩
      exact k (.val .non) _ .non I1 _ hΦ (y2.cons_val rfl) ((g.trans (Goes.upd y1 hc) y1.sub).sub fun a h => own_cons_val.mp h))
end
theorem slbt1 {a0 : Arg} {i : Int} {P : Arg → Int → Prop} (h : P a0 i) : ∃ (a0' : Arg) (i' : Int), [a0, Arg.v (.int i)] = [a0', .v (.int i')] ∧ P a0' i' := ⟨a0, i, rfl, h⟩
end Zd
/-! Deep data: instances of one's own classes: fields read and stored, made, their methods called. -/
namespace Zd
open PySem PySem.Spec L2
/-! ### fields -/
def fldD (f : Str) : List Str → List D → Option D
  | k :: ks, d :: ds => if f = k then some d else fldD f ks ds
  | _, _ => none
def putK (f : Str) : List Str → List Str
  | [] => [f]
  | g :: r => if g = f then g :: r else g :: putK f r
def putDs (f : Str) (d : D) : List Str → List D → List D
  | [], _ => [d]
  | _ :: _, [] => []
  | g :: r, x :: xs => if g = f then d :: xs else x :: putDs f d r xs
section
variable {K : PySem.W.Frag} {I : Hp}
theorem fld_reps {f : Str} : ∀ {fs : List (Str × V)} {ks : List Str} {ds : List D} {d : D}, fs.map (·.1) = ks → Reps K I ds (fs.map (·.2)) → fldD f ks ds = some d → ∃ v, fs.lookup f = some v ∧ Rep K I d v
  | [], ks, ds, d, h1, h2, h => by
    subst h1
    cases h
  | (g, v) :: fs, ks, ds, d, h1, h2, h => by
    subst h1
    cases ds with
    | nil => cases (show _ = _ from h2)
    | cons d0 ds =>
      obtain ⟨v', r, e, h3, h4⟩ := h2
      cases e
      have h : (if f = g then some d0 else fldD f (fs.map (·.1)) ds) = some d := h
      by_cases hg : f = g
      · rw [if_pos hg] at h
        cases h
        refine ⟨v, ?_, h3⟩
        have hb : (f == g) = true := beq_iff_eq.mpr hg
        simp only [List.lookup, hb]
      · rw [if_neg hg] at h
        obtain ⟨u, e1, e2⟩ := fld_reps (fs := fs) rfl h4 h
        refine ⟨u, ?_, e2⟩
        have hb : (f == g) = false := beq_eq_false_iff_ne.mpr hg
        simp only [List.lookup, hb]
        exact e1
theorem look_none {f : Str} : ∀ {fs : List (Str × V)}, f ∉ fs.map (·.1) → fs.lookup f = none
  | [], _ => rfl
  | (g, v) :: fs, h => by
    have hg : f ≠ g := fun e => h (by rw [e]; simp)
    have hb : (f == g) = false := beq_eq_false_iff_ne.mpr hg
    simp only [List.lookup, hb]
    exact look_none fun e => h (List.mem_cons_of_mem _ e)
theorem put_reps {f : Str} {d : D} {v : V} (hv : Rep K I d v) : ∀ {fs : List (Str × V)} {ks : List Str} {ds : List D}, fs.map (·.1) = ks → Reps K I ds (fs.map (·.2)) → (putF f v fs).map (·.1) = putK f ks ∧ Reps K I (putDs f d ks ds) ((putF f v fs).map (·.2))
  | [], ks, ds, h1, h2 => by
    subst h1
    exact ⟨rfl, Reps.cons hv Reps.nil⟩
  | (g, x) :: fs, ks, ds, h1, h2 => by
    subst h1
    cases ds with
    | nil => cases (show _ = _ from h2)
    | cons d0 ds =>
      obtain ⟨v', r, e, h3, h4⟩ := h2
      cases e
      rw [show putF f v ((g, x) :: fs) = (if g = f then (g, v) :: fs else (g, x) :: putF f v fs) from rfl]
      show _ = (if g = f then g :: fs.map (·.1) else g :: putK f (fs.map (·.1))) ∧ Reps K I (if g = f then d :: ds else d0 :: putDs f d (fs.map (·.1)) ds) _
      by_cases hg : g = f
      · rw [if_pos hg, if_pos hg, if_pos hg]
        exact ⟨rfl, Reps.cons hv h4⟩
      · rw [if_neg hg, if_neg hg, if_neg hg]
        obtain ⟨e1, e2⟩ := put_reps hv (fs := fs) rfl h4
        exact ⟨by rw [List.map_cons, e1], Reps.cons h3 e2⟩
end
section
variable {G : Gx} {δ : Env} {Φ : DV → Env → Prop} {pos : Pos}
/-- e.f, an attribute of the instance -/
def rFld (K : PySem.W.Frag) (f : Str) : V → Hp → VK → Prop := fun x H1 Q => ∃ a C dx fs v, x = .ref a ∧ H1 a = some (.ins C dx fs) ∧ Cls K C ∧ NoAttr K C f ∧ fs.lookup f = some v ∧ Q v H1
theorem de_fld {e : Expr} {f : Str} (h : dgs G [e] δ (Asked G (R1l (rFld G.X.K f)) Φ)) (hb : attributeBase e f G.X.env (eval e G.X.env) = eval e G.X.env := by rfl) : de G (.Attribute e f pos) δ Φ :=
  de_R (fun σ H Q h => (pe_fld PE.of hb).to (show tFld G.X.K (we G.X e) f σ H Q from wes1 (r := rFld G.X.K f) h)) h
theorem dr_fld {X : Cx} {C : Addr} {f : Str} {ks : List Str} {ds : List D} {d : D} {Ψ : DV → Prop} (c : Cls X.K C) (n : NoAttr X.K C f) (e : fldD f ks ds = some d) (h : Ψ (.val d)) : DR X.K (R1l (rFld X.K f)) [.obj C ks ds] Ψ := dr_R1 fun I H v s r1 Q q => by
  obtain ⟨a, dx, fs, rfl, h1, h2, h3⟩ := r1
  obtain ⟨u, e1, e2⟩ := fld_reps h2 h3 e
  exact ⟨a, C, dx, fs, u, rfl, s _ _ h1, c, n, e1, q _ _ I H h (Res.val s e2)⟩
/-- x.f, x a slot's own instance -/
theorem de_fldO {i : Nat} {y : Str} {py : Pos} {f : Str} {q : Addr} {C : Addr} {ks : List Str} {ds : List D} {d : D} (hi : Nth G.X.N i y) (hδ : δ[i]? = some (.own q (.obj C ks ds))) (c : Cls G.X.K C) (n : NoAttr G.X.K C f) (e : fldD f ks ds = some d) (h : Φ (.val d) δ)
    (hv : Vis G.X.env.scope y) (hd : (y == ("__debug__" : Str)) = false := by decide) (hcd : (y == ("__classdict__" : Str)) = false := by decide)
    (hb : attributeBase (.Name y py) f G.X.env (eval (.Name y py) G.X.env) = eval (.Name y py) G.X.env := by rfl) : de G (.Attribute (.Name y py) f pos) δ Φ := fun σ I H z fu Q k =>
  (pe_fld PE.of hb).to (by
    obtain ⟨h1, h2, h3⟩ := z.own i q _ hδ
    refine we_slot hi hv hd hcd h1 ?_
    obtain ⟨dx, fs, g1, g2, g3⟩ := h3
    obtain ⟨u, e1, e2⟩ := fld_reps g2 g3 e
    exact ⟨q, C, dx, fs, u, rfl, g1, c, n, e1, k (.val d) δ u I H h (z.cons_val e2) ((Goes.refl).sub fun a h => own_cons_val.mp h)⟩)
/-- x.f = e -/
theorem ds_fld {E : DE} {i : Nat} {y : Str} {py ps' : Pos} {f : Str} {q : Addr} {c0 : Cell} {e : Expr} (hi : Nth G.X.N i y) (hδ : δ[i]? = some (.own q c0))
    (h : de G e δ fun r δ0 => ∃ d C ks ds, Fast r d ∧ δ0[i]? = some (.own q (.obj C ks ds)) ∧ Cls G.X.K C ∧ NoAttr G.X.K C f ∧ ks.length < 1000 ∧ Put δ0 i (.own q (.obj C (putK f ks) (putDs f d ks ds))) E.nx) (hv : Vis G.X.env.scope y)
    (hs : swapsWith e (some (.Attribute (.Name y py) f ps')) pos.line G.X.env = pure false)
    (hd : (y == ("__debug__" : Str)) = false := by decide) (hcd : (y == ("__classdict__" : Str)) = false := by decide) : ds G (.Assign [.Attribute (.Name y py) f ps'] e pos) δ E := fun σ I H T z fx =>
  (ps_fld PE.of PE.of hs).to (h σ I H z fx.xc _ fun r δ0 v I1 H1 ⟨d, C, ks, ds, fs, hc1, c, n, hl, a⟩ y1 g1 => by
    have nr := fs.ne
    cases fs.eq
    obtain ⟨I2, y2, rp, g2⟩ := top_fast y1 g1 nr
    obtain ⟨w1, w2, w3⟩ := y2.own i q _ hc1
    refine we_slot hi hv hd hcd w1 ?_
    have f2 := fx.go g2 y2.sub
    obtain ⟨dx, fs', x1, x2, x3⟩ := w3
    refine ⟨q, C, dx, fs', rfl, x1, c, n, by rw [← List.length_map (f := (·.1)), x2]; exact hl, ?_⟩
    obtain ⟨p1, p2⟩ := put_reps (f := f) rp x2 x3
    have y4 := y2.upd (c' := .obj C (putK f ks) (putDs f r.toD ks ds)) (o := .ins C dx (putF f v fs')) hc1 ⟨dx, _, upd_same, p1, p2⟩
    exact f2.nx σ _ I2 _ a y4 (Goes.upd y2 hc1))
end
/-! ### calls of defs, however they are asked -/
section
variable {X : Cx} {CX : CXT} {k n : Nat} {f C : Addr} {fd : FuncData} {ps : List Str} {sp : Sp} {E : St → XK} {pins : List (Addr × Obj)} {σ : St} {H : Hp} {s : Shared} {Q : VK} {us : List Value} {vs : List V} {A : Around}
theorem run_at {R : Value → Shared → Prop} (F : FnOk X.prog X.w X.K X.mg X.base CX k f fd ps sp) (sb : Sub X k A) (hb : Binds X.K fd ps []) (hx : PassesAt CX X σ (E σ))
    (I : Inv X pins σ H s) (r : Vals vs us) (h : sp vs H Q (E σ)) (hR : ∀ u s', EP X pins σ Q u s' → R u s') : wpAny (model X.prog X.w) A (call (.ref f) us) R X.xe s := by
  have hl : us.length = ps.length := by rw [← r.length]; exact F.len _ _ _ _ h
  have e0 : Env0 X.prog X.w X.K X.mg X.base A X.stack s H := by
    have e := I.env0
    exact ⟨by rw [sb.fr]; exact e.frames, e.mod, e.bs, e.bsz, e.funs, e.frf, e.hok, e.bare⟩
  refine wpAny_call (codeAny_mono (F.run A X.stack s H ⟨us, []⟩ us vs Q (E σ) sb.room e0 (by
    have := hb s us I.kIn (by simpa using hl)
    simpa using this) r h) fun r s' hq => ?_)
  cases r with
  | error e => exact hx pins H s e s' I hq
  | ok fl =>
    cases fl with
    | ret u => exact hR _ _ (I.after hq)
    | next => exact False.elim hq
    | brk => exact False.elim hq
    | cont => exact False.elim hq
theorem Sub.here (hr : Room k X.A) : Sub X k X.A := ⟨hr, rfl⟩
theorem no_ex (σ : St) : PassesAt (L2N.CX X.prog X.w) X σ ((fun _ _ _ _ => False : St → XK) σ) := fun pins H s e s' I ⟨_, _, _, _, _, _, _, _, _, _, _, _, z⟩ => z.elim
/-- o.m(e, ..), what is raised wished for at the caller's slots -/
def tMethS (C : Addr) (m : Str) (sp : Sp) (E : St → XK) (ta : TE) (t : TA) : TE := fun σ H Q => ta σ H fun x H1 => ∃ a dx fs, x = .ref a ∧ H1 a = some (.ins C dx fs) ∧ fs.lookup m = none ∧ t σ H1 fun vs H2 => sp (x :: vs) H2 Q (E σ)
theorem pe_methS {m : Str} {o e : Expr} {es : List Expr} {ta : TE} {t : TA} {pos apos : Pos} {pl : Sem Bool} (he : PE X o ta) (c : Cls X.K C) (hm : Meth X.K C m f) (F : FnOk X.prog X.w X.K X.mg X.base CX k f fd ps sp) (hr : Room k X.A) (hb : Binds X.K fd ps []) (hx : ∀ σ, PassesAt CX X σ (E σ)) (ha : PA X (e :: es) t)
    (hst : starEach (e :: es) X.env = (false, eval e X.env) :: starEach es X.env := by rfl) (hpl : (backTo pos (starEach es X.env)).any (·.1) = false := by rfl)
    (ht : eval (.Call (.Attribute o m apos) (e :: es) [] pos) X.env = (do
      let ov ← eval o X.env
      standAt apos.atName
      let (f, first) ← holding [ov] (getMethod ov m pl)
      callWith pos f first (backTo pos (starEach (e :: es) X.env)) (backToKw pos (keywordEach [] X.env))) := by rfl) :
    PE X (.Call (.Attribute o m apos) (e :: es) [] pos) (tMethS C m sp E ta t) := by
  refine ⟨fun pins s σ H Q I h => ?_⟩
  refine PySem.W.methodCall_KW (pl := pl) (thn (he.run pins s σ H _ I h) fun u s1 ⟨x, H1, I1, rx, a, dx, fs, ex, ea, l, q⟩ => ?_) ht
  subst ex
  obtain rfl : u = Value.ref a := rx
  refine getmeth_ok I1 ea c hm l ?_
  refine PySem.W.callWith_K (first := [.ref a]) (h₀ := X.base) I.ok.mod.kin hm.kp (thn (ha.run pos pins s1 σ H1 _ I1 q) fun us s2 ⟨vs, H2, I2, r, q2⟩ => ⟨I2.kIn, ?_⟩) hst hpl
  exact run_at (us := .ref a :: us) (vs := .ref a :: vs) F (Sub.here hr) hb (hx σ) I2 (.cons rfl r) q2 fun _ _ h => h
theorem pe_methS0 {m : Str} {o : Expr} {ta : TE} {pos apos : Pos} {pl : Sem Bool} (he : PE X o ta) (c : Cls X.K C) (hm : Meth X.K C m f) (F : FnOk X.prog X.w X.K X.mg X.base CX k f fd ps sp) (hr : Room k X.A) (hb : Binds X.K fd ps []) (hx : ∀ σ, PassesAt CX X σ (E σ))
    (ht : eval (.Call (.Attribute o m apos) [] [] pos) X.env = (do
      let ov ← eval o X.env
      standAt apos.atName
      let (f, first) ← holding [ov] (getMethod ov m pl)
      callWith pos f first (backTo pos (starEach [] X.env)) (backToKw pos (keywordEach [] X.env))) := by rfl) :
    PE X (.Call (.Attribute o m apos) [] [] pos) (tMethS C m sp E ta tNil) := by
  refine ⟨fun pins s σ H Q I h => ?_⟩
  refine PySem.W.methodCall_KW (pl := pl) (thn (he.run pins s σ H _ I h) fun u s1 ⟨x, H1, I1, rx, a, dx, fs, ex, ea, l, q⟩ => ?_) ht
  subst ex
  obtain rfl : u = Value.ref a := rx
  refine getmeth_ok I1 ea c hm l ?_
  exact PySem.W.callWith_K0 (first := [.ref a]) I1.kIn hm.kp (run_at (us := [.ref a]) (vs := [.ref a]) F (Sub.here hr) hb (hx σ) I1 (.cons rfl .nil) q fun _ _ h => h)
/-- C(..) -/
def tMakeS (C : Addr) (sp : Sp) (E : St → XK) (t : TA) : TE := fun σ H Q => t σ H fun vs H1 => ∀ x dx, H1 x = none → H1 dx = none → dx ≠ x →
  sp (.ref x :: vs) (upd (upd H1 dx (.own x)) x (.ins C dx [])) (fun v H2 => v = .non ∧ Q (.ref x) H2) (E σ)
theorem run_makeS (M : Mk X.K C f) (F : FnOk X.prog X.w X.K X.mg X.base CX k f fd ps sp) (hr : Room (k + 1) X.A) (hb : Binds X.K fd ps []) (hx : PassesAt CX X σ (E σ)) (I : Inv X pins σ H s) (r : Vals vs us)
    (h : ∀ x dx, H x = none → H dx = none → dx ≠ x → sp (.ref x :: vs) (upd (upd H dx (.own x)) x (.ins C dx [])) (fun v H2 => v = .non ∧ Q (.ref x) H2) (E σ)) :
    wpAny (model X.prog X.w) X.A (call (.ref C) us) (EP X pins σ Q) X.xe s := by
  have hq := h (s.heap.objs.size + 1) s.heap.objs.size (I.hok.fresh (Nat.le_succ _)) (I.hok.fresh (Nat.le_refl _)) (Nat.ne_of_lt (Nat.lt_succ_self _))
  have I2 := Inv.made (C := C) I
  have r2 : Vals (V.ref (s.heap.objs.size + 1) :: vs) (Value.ref (s.heap.objs.size + 1) :: us) := .cons rfl r
  have hl : (Value.ref (s.heap.objs.size + 1) :: us).length = ps.length := by
    have e := r2.length
    rw [F.len _ _ _ _ hq] at e
    exact e.symm
  refine wpAny_call (make_map (f := f) I.kIn M.makes M.init (beq_iff_eq.mp M.fn) (codeAny_mono (F.run _ X.stack _ _ ⟨Value.ref (s.heap.objs.size + 1) :: us, []⟩ (Value.ref (s.heap.objs.size + 1) :: us) _ _ (E σ) (hr.make C us [])
    (I2.env0.make C us []) (by
      have := hb { s with heap := (s.heap.push PySem.W.emptyDict).push (PySem.W.instObj C s.heap.objs.size) } (Value.ref (s.heap.objs.size + 1) :: us) I2.kIn (by simpa using hl)
      simpa using this) r2 hq) fun r s' hq' => ?_))
  cases r with
  | error e => exact hx pins _ _ e s' I2 hq'
  | ok fl =>
    cases fl with
    | ret u =>
      obtain ⟨v, H', I3, rv, ev, q3⟩ := I2.after hq'
      subst ev
      exact ⟨rv, ⟨V.ref (s.heap.objs.size + 1), H', I3, rfl, q3⟩⟩
    | next => exact False.elim hq'
    | brk => exact False.elim hq'
    | cont => exact False.elim hq'
theorem pe_makeS {x : Str} {p pos : Pos} {e : Expr} {es : List Expr} {t : TA} (M : Mk X.K C f) (F : FnOk X.prog X.w X.K X.mg X.base CX k f fd ps sp) (hr : Room (k + 1) X.A) (hg : Gl X x) (hm : X.mg x = some (.ref C)) (hb : Binds X.K fd ps []) (hx : ∀ σ, PassesAt CX X σ (E σ))
    (ha : PA X (e :: es) t) (hdb : (x == ("__debug__" : Str)) = false := by decide) (he : starEach (e :: es) X.env = (false, eval e X.env) :: starEach es X.env := by rfl) (hpl : (backTo pos (starEach es X.env)).any (·.1) = false := by rfl) :
    PE X (.Call (.Name x p) (e :: es) [] pos) (tMakeS C sp E t) := by
  refine ⟨fun pins s σ H Q I h => ?_⟩
  refine wpAny_Call_Name_kw (ld_glob I hg hm ?_ hdb)
  refine PySem.W.callWith_K (h₀ := X.base) I.ok.mod.kin M.kp (thn (ha.run pos pins s σ H _ I h) fun us s1 ⟨vs, H1, I1, r, q⟩ => ⟨I1.kIn, ?_⟩) he hpl
  exact run_makeS M F hr hb (hx σ) I1 r q
end
section
variable {G : Gx} {δ δ1 : Env} {Φ : DV → Env → Prop} {pos : Pos} {k j : Nat} {f C : Addr} {fd : FuncData} {ps : List Str}
/-- behind the arguments of a call -/
theorem callQ_end {S : PSp} {n : Nat} {σ : St} {I H I1 H1 : Hp} {as : List Arg} {vs : List V} {ds : List D} {b : Bool} {Q : VK} (hd : ArgsD δ1 as ds b) (hl : ds.length = n) (hS : S ds (fun r => (b = true → flatV r = true) ∧ Φ r δ1) (fun x => (b = true → flatX x = true) ∧ G.Ξ x δ1))
    (fu : XFut G δ I H) (q : ∀ r δ' v I' H', Φ r δ' → EnvR G.X.K I' H' (some v :: σ) (r :: δ') → Goes (Own δ) (Own (r :: δ')) I H I' H' → Q v H') (y1 : EnvR G.X.K I1 H1 σ δ1) (ar : ArgsR G.X.K I1 σ as vs) (g : Goes (Own δ) (Own δ1) I H I1 H1) : spP G.X.K n S vs H1 Q (WE G.W σ) := by
    obtain ⟨I2, bo, rp, hb⟩ := borrow y1 ar hd
    refine ⟨by rw [rp.length]; exact hl, I2, ds, _, _, bo.sub, rp, hS, fun r v I' H' ⟨hf, hΦ⟩ re => ?_, fun ex cls d I' H' ⟨hf, hx⟩ le hh nw sb xr => ?_⟩
    · obtain ⟨I'', z, g'⟩ := unlent y1 bo hb hf re
      exact q r δ1 v I'' H' hΦ z (g.trans g' y1.sub)
    · have fut := fu.go g y1.sub
      cases b with
      | false =>
        cases hb rfl
        exact fut ex δ1 σ I' H' cls d hx (y1.grow le sb hh nw) (Goes.grow le hh nw) xr
      | true =>
        obtain ⟨I'', z, g'⟩ := unlent (r := .val .non) (v := .non) (b := true) y1 bo hb (fun _ => rfl) ⟨le, hh, nw, sb, rfl⟩
        refine fut ex δ1 σ (unlend I1 I2 I') H' cls d hx ?_ ?_ ?_
        · exact y1.grow (unlend_low (bo.le.trans le)) (unlend_le sb) hh fun a o h i => by
            by_cases hc : I1 a = none ∧ I2 a ≠ none
            · exact unlend_none hc
            · rw [unlend_of hc]
              refine nw a o h ?_
              cases e : I2 a with
              | none => rfl
              | some u => exact absurd ⟨i, by rw [e]; simp⟩ hc
        · exact Goes.grow (unlend_low (bo.le.trans le)) hh fun a o h i => by
            by_cases hc : I1 a = none ∧ I2 a ≠ none
            · exact unlend_none hc
            · rw [unlend_of hc]
              refine nw a o h ?_
              cases e : I2 a with
              | none => rfl
              | some u => exact absurd ⟨i, by rw [e]; simp⟩ hc
        · cases ex with
          | plain c => exact xr
          | mk C ks ds =>
            obtain ⟨h1, dx, fs, h2, h3, h4, h5⟩ := xr
            refine ⟨h1, dx, fs, h2, ?_, h4, flat_reps bo le ds _ (hf rfl) h5⟩
            have nb : ¬ (I1 dx = none ∧ I2 dx ≠ none) := fun ⟨n1, n2⟩ => by
              cases e : I2 dx with
              | none => exact n2 e
              | some u =>
                have nt := (bo.new dx u n1 e).2
                have u2 := le _ _ e
                rw [h3] at u2
                cases u2
                exact nt
            rw [unlend_of nb]
            exact h3
/-- o.m(e, ..): a def that changes nothing -/
theorem de_meth {S : PSp} {o e : Expr} {es : List Expr} {m : Str} {apos : Pos} {pl : Sem Bool} (F : FnOk G.X.prog G.X.w G.X.K G.X.mg G.X.base (L2N.CX G.X.prog G.X.w) j f fd ps (spP G.X.K ps.length S)) (c : Cls G.X.K C) (hm : Meth G.X.K C m f) (hb : Binds G.X.K fd ps [])
    (h : de G o δ fun r δ0 => ∃ ks ds0, Fast r (.obj C ks ds0) ∧ m ∉ ks ∧ dgs G (e :: es) δ0 fun as δ1 => ∃ ds b, ArgsD δ1 as ds b ∧ ds.length + 1 = ps.length ∧ S (.obj C ks ds0 :: ds) (fun r => (b = true → flatV r = true) ∧ Φ r δ1) (fun x => (b = true → flatX x = true) ∧ G.Ξ x δ1))
    (hr : Room k G.X.A) (hj : j ≤ k) (tk : L2N.Takes G.X G.W) (ha : PA G.X (e :: es) (wes G.X (e :: es)))
    (hst : starEach (e :: es) G.X.env = (false, eval e G.X.env) :: starEach es G.X.env := by rfl) (hpl : (backTo pos (starEach es G.X.env)).any (·.1) = false := by rfl)
    (ht : eval (.Call (.Attribute o m apos) (e :: es) [] pos) G.X.env = (do
      let ov ← eval o G.X.env
      standAt apos.atName
      let (f, first) ← holding [ov] (getMethod ov m pl)
      callWith pos f first (backTo pos (starEach (e :: es) G.X.env)) (backToKw pos (keywordEach [] G.X.env))) := by rfl) :
    de G (.Call (.Attribute o m apos) (e :: es) [] pos) δ Φ := fun σ I H y fu Q q =>
  (pe_methS (E := fun σ => WE G.W σ) PE.of c hm F (hr.mono hj) hb (fun σ => L2N.passAt tk σ) ha hst hpl ht).to (h σ I H y fu _ fun r δ0 v I1 H1 ⟨ks, ds0, fs, hk, hh⟩ y1 g1 => by
    have nr := fs.ne
    have fe := fs.eq
    obtain ⟨I2, y2, rp, g2⟩ := top_fast y1 g1 nr
    rw [fe] at rp
    obtain ⟨a, dx, fl, rfl, x1, x2, x3⟩ := id rp
    refine ⟨a, dx, fl, rfl, y2.sub _ _ x1, look_none (by rw [x2]; exact hk), ?_⟩
    refine hh σ I2 H1 y2 (fu.go g2 y2.sub) _ fun as δ1 vs I3 H3 ⟨ds, b, hd, hl, hS⟩ y3 ar g3 => ?_
    exact callQ_end (as := .v (.obj C ks ds0) :: as) (.v hd) (by rw [List.length_cons]; exact hl) hS (fu.go g2 y2.sub) (fun r δ' v I' H' hΦ y' g' => q r δ' v I' H' hΦ y' (g2.trans g' y2.sub)) y3 ⟨_, vs, rfl, Rep.mono g3.le _ _ rp, ar⟩ g3)
theorem de_meth0 {S : PSp} {o : Expr} {m : Str} {apos : Pos} {pl : Sem Bool} (F : FnOk G.X.prog G.X.w G.X.K G.X.mg G.X.base (L2N.CX G.X.prog G.X.w) j f fd ps (spP G.X.K ps.length S)) (c : Cls G.X.K C) (hm : Meth G.X.K C m f) (hb : Binds G.X.K fd ps [])
    (h : de G o δ fun r δ0 => ∃ ks ds0, Fast r (.obj C ks ds0) ∧ m ∉ ks ∧ 1 = ps.length ∧ S [.obj C ks ds0] (fun r => (false = true → flatV r = true) ∧ Φ r δ0) (fun x => (false = true → flatX x = true) ∧ G.Ξ x δ0))
    (hr : Room k G.X.A) (hj : j ≤ k) (tk : L2N.Takes G.X G.W)
    (ht : eval (.Call (.Attribute o m apos) [] [] pos) G.X.env = (do
      let ov ← eval o G.X.env
      standAt apos.atName
      let (f, first) ← holding [ov] (getMethod ov m pl)
      callWith pos f first (backTo pos (starEach [] G.X.env)) (backToKw pos (keywordEach [] G.X.env))) := by rfl) :
    de G (.Call (.Attribute o m apos) [] [] pos) δ Φ := fun σ I H y fu Q q =>
  (pe_methS0 (E := fun σ => WE G.W σ) PE.of c hm F (hr.mono hj) hb (fun σ => L2N.passAt tk σ) ht).to (h σ I H y fu _ fun r δ0 v I1 H1 ⟨ks, ds0, fs, hk, hl, hS⟩ y1 g1 => by
    have nr := fs.ne
    have fe := fs.eq
    obtain ⟨I2, y2, rp, g2⟩ := top_fast y1 g1 nr
    rw [fe] at rp
    obtain ⟨a, dx, fl, rfl, x1, x2, x3⟩ := id rp
    refine ⟨a, dx, fl, rfl, y2.sub _ _ x1, look_none (by rw [x2]; exact hk), ?_⟩
    exact callQ_end (as := [.v (.obj C ks ds0)]) (b := false) (.v .nil) hl hS (fu.go g2 y2.sub) (fun r δ' v I' H' hΦ y' g' => q r δ' v I' H' hΦ y' (g2.trans g' y2.sub)) y2 ⟨_, [], rfl, rp, rfl⟩ Goes.refl)
/-- C(e, ..) -/
theorem de_make {S : MSp} {x : Str} {p : Pos} {e : Expr} {es : List Expr} (M : Mk G.X.K C f) (F : FnOk G.X.prog G.X.w G.X.K G.X.mg G.X.base (L2N.CX G.X.prog G.X.w) j f fd ps (spM G.X.K ps.length S)) (hm : G.X.mg x = some (.ref C)) (hb : Binds G.X.K fd ps [])
    (h : dgs G (e :: es) δ fun as δ1 => ∃ ds, as = ds.map Arg.v ∧ ds.length + 1 = ps.length ∧ S (.obj C [] []) ds (fun r c' => r = .val .non ∧ ∀ p, Φ (.own p c') δ1) (fun x _ => G.Ξ x δ1))
    (hr : Room k G.X.A) (hj : j + 1 ≤ k) (tk : L2N.Takes G.X G.W) (hg : Gl G.X x) (ha : PA G.X (e :: es) (wes G.X (e :: es)))
    (hdb : (x == ("__debug__" : Str)) = false := by decide) (he : starEach (e :: es) G.X.env = (false, eval e G.X.env) :: starEach es G.X.env := by rfl) (hpl : (backTo pos (starEach es G.X.env)).any (·.1) = false := by rfl) :
    de G (.Call (.Name x p) (e :: es) [] pos) δ Φ := fun σ I H y fu Q q =>
  (pe_makeS (E := fun σ => WE G.W σ) M F (hr.mono hj) hg hm hb (fun σ => L2N.passAt tk σ) ha hdb he hpl).to (h σ I H y fu _ fun as δ1 vs I1 H1 ⟨ds, has, hl, hS⟩ y1 ar g => fun x dx hx hdx hne => by
    subst has
    have rp := args_vals ar
    have nx : ∀ {a : Addr} {o : HO}, H1 a = some o → a ≠ x ∧ a ≠ dx := fun {a o} h => ⟨fun z => (by rw [z, hx] at h; cases h), fun z => (by rw [z, hdx] at h; cases h)⟩
    have up : ∀ {a : Addr} {o : HO}, H1 a = some o → upd (upd H1 dx (.own x)) x (.ins C dx []) a = some o := fun {a o} h => by
      rw [upd_ne (nx h).1, upd_ne (nx h).2]; exact h
    have grow : ∀ {I' H' : Hp} {c' : Cell}, ResM G.X.K I1 (upd (upd H1 dx (.own x)) x (.ins C dx [])) I' H' x c' → EnvR G.X.K I' H' σ δ1 ∧ Goes (Own δ1) (Own δ1) I1 H1 I' H' := fun {I' H' c'} re =>
      ⟨y1.grow re.le re.sub (fun a o h => (re.keep a o (nx h).1 (up h)).1) (fun a o h i => (re.keep a o (nx h).1 (up h)).2 i),
       Goes.grow re.le (fun a o h => (re.keep a o (nx h).1 (up h)).1) (fun a o h i => (re.keep a o (nx h).1 (up h)).2 i)⟩
    refine ⟨by rw [List.length_cons, rp.length]; exact hl, x, vs, I1, .obj C [] [], ds, _, _, rfl, fun a o h => up (y1.sub _ _ h), ?_, ⟨dx, [], upd_same, rfl, rfl⟩, rp, hS, fun r c' v I' H' ⟨hr', hΦ⟩ re rl => ?_, fun ex c' cls d I' H' hx' re xr => ?_⟩
    · cases e : I1 x with
      | none => rfl
      | some o =>
        have := y1.sub _ _ e
        rw [hx] at this; cases this
    · subst hr'
      refine ⟨rl, ?_⟩
      obtain ⟨y2, g2⟩ := grow re
      have nO : ¬ Own δ1 x := fun ⟨jj, cc, ee⟩ => by
        obtain ⟨_, _, w3⟩ := y1.own jj x cc ee
        obtain ⟨o, ho⟩ := w3.there
        rw [hx] at ho; cases ho
      refine q (.own x c') δ1 (.ref x) I' H' (hΦ x) (y2.cons_own nO re.ip re.cell) (g.trans ⟨g2.le, g2.keep, fun a ha => ?_⟩ y1.sub)
      obtain ⟨jj, cc, ee⟩ := ha
      cases jj with
      | zero =>
        simp at ee
        rw [← ee.1]
        exact .inr hx
      | succ jj => exact .inl ⟨jj, cc, by simpa using ee⟩
    · obtain ⟨y2, g2⟩ := grow re
      exact (fu.go g y1.sub) ex δ1 σ I' H' cls d hx' y2 g2 xr)
end
section
variable {G : Gx} {δ δ1 : Env} {Φ : DV → Env → Prop} {pos : Pos} {k j : Nat} {f C : Addr} {fd : FuncData} {ps : List Str}
/-- x.m(e, ..): x holds an instance of one's own, which m changes -/
theorem de_methM {S : MSp} {i : Nat} {y m : Str} {py apos : Pos} {e0 : Expr} {es : List Expr} {q : Addr} {ks0 : List Str} {ds0 : List D} {pl : Sem Bool} (F : FnOk G.X.prog G.X.w G.X.K G.X.mg G.X.base (L2N.CX G.X.prog G.X.w) j f fd ps (spM G.X.K ps.length S)) (cl : Cls G.X.K C) (hm : Meth G.X.K C m f) (hb : Binds G.X.K fd ps [])
    (hi : Nth G.X.N i y) (hδ : δ[i]? = some (.own q (.obj C ks0 ds0))) (hk0 : m ∉ ks0)
    (h : dgs G (e0 :: es) δ fun as δ1 => ∃ c ds, δ1[i]? = some (.own q c) ∧ as = ds.map Arg.v ∧ ds.length + 1 = ps.length ∧ S c ds (fun r c' => okR r (Put δ1 i (.own q c') (Φ r))) (fun x c' => Put δ1 i (.own q c') (G.Ξ x)))
    (hr : Room k G.X.A) (hj : j ≤ k) (tk : L2N.Takes G.X G.W) (hv : Vis G.X.env.scope y) (ha : PA G.X (e0 :: es) (wes G.X (e0 :: es))) (hd : (y == ("__debug__" : Str)) = false := by decide) (hcd : (y == ("__classdict__" : Str)) = false := by decide)
    (hst : starEach (e0 :: es) G.X.env = (false, eval e0 G.X.env) :: starEach es G.X.env := by rfl) (hpl : (backTo pos (starEach es G.X.env)).any (·.1) = false := by rfl)
    (ht : eval (.Call (.Attribute (.Name y py) m apos) (e0 :: es) [] pos) G.X.env = (do
      let ov ← eval (.Name y py) G.X.env
      standAt apos.atName
      let (f, first) ← holding [ov] (getMethod ov m pl)
      callWith pos f first (backTo pos (starEach (e0 :: es) G.X.env)) (backToKw pos (keywordEach [] G.X.env))) := by rfl) :
    de G (.Call (.Attribute (.Name y py) m apos) (e0 :: es) [] pos) δ Φ := fun σ I H z fu Q k' =>
  (pe_methS (E := fun σ => WE G.W σ) PE.of cl hm F (hr.mono hj) hb (fun σ => L2N.passAt tk σ) ha hst hpl ht).to (by
    obtain ⟨h1, h2, h3⟩ := z.own i q _ hδ
    refine we_slot hi hv hd hcd h1 ?_
    obtain ⟨dx, fl, x1, x2, x3⟩ := h3
    refine ⟨q, dx, fl, rfl, x1, look_none (by rw [x2]; exact hk0), ?_⟩
    refine h σ I H z fu _ fun as δ1 vs I1 H1 ⟨c, ds, hc, has, hl, hS⟩ y1 ar g => ?_
    subst has
    have rp := args_vals ar
    obtain ⟨g1, g2, g3⟩ := y1.own i q c hc
    have upd1 : ∀ {I' H' : Hp} {c' : Cell}, ResM G.X.K I1 H1 I' H' q c' → EnvR G.X.K I' H' σ (δ1.set i (.own q c')) ∧ Goes (Own δ1) (Own (δ1.set i (.own q c'))) I1 H1 I' H' := fun {I' H' c'} re => by
      have hlt : i < δ1.length := (List.getElem?_eq_some_iff.mp hc).1
      have key : ∀ (j : Nat) (y : DV), (δ1.set i (.own q c'))[j]? = some y → (j = i ∧ y = .own q c') ∨ (j ≠ i ∧ δ1[j]? = some y) := fun j y e => by
        by_cases hj : j = i
        · subst hj
          rw [List.getElem?_set_self hlt] at e
          exact .inl ⟨rfl, (Option.some.inj e).symm⟩
        · rw [List.getElem?_set_ne (Ne.symm hj)] at e
          exact .inr ⟨hj, e⟩
      refine ⟨⟨re.sub, by simp [y1.len], fun j d e => ?_, fun j a e' e => ?_, fun j l a c1 c2 e1 e2 => ?_⟩, re.le, fun a o h i np => ?_, fun a ha => .inl ((own_upd hc).mp ha)⟩
      · rcases key j _ e with ⟨_, z⟩ | ⟨_, z⟩
        · cases z
        · obtain ⟨v, w1, w2⟩ := y1.val j d z
          exact ⟨v, w1, Rep.mono re.le _ _ w2⟩
      · rcases key j _ e with ⟨z1, z2⟩ | ⟨hj, z⟩
        · cases z2
          rw [z1]
          exact ⟨g1, re.ip, re.cell⟩
        · obtain ⟨w1, w2, w3⟩ := y1.own j a e' z
          have hne : a ≠ q := fun y => by
            rw [y] at z
            exact hj (y1.inj j i q _ _ z hc)
          obtain ⟨o, ho⟩ := w3.there
          exact ⟨w1, (re.keep a o hne ho).2 w2, w3.mono re.le fun o ho => (re.keep a o hne ho).1⟩
      · rcases key j _ e1 with ⟨y1', y2⟩ | ⟨hj, y⟩ <;> rcases key l _ e2 with ⟨z1, z2⟩ | ⟨hk', z⟩
        · rw [y1', z1]
        · cases y2
          exact absurd (y1.inj l i q _ _ z hc) hk'
        · cases z2
          exact absurd (y1.inj j i q _ _ y hc) hj
        · exact y1.inj j l a c1 c2 y z
      · have hne : a ≠ q := fun e => np ⟨_, c, by rw [e]; exact hc⟩
        obtain ⟨z1, z2⟩ := re.keep a o hne h
        exact ⟨z1, z2 i⟩
    refine ⟨by simp [rp.length]; exact hl, q, vs, I1, c, ds, _, _, rfl, y1.sub, g2, g3, rp, hS, fun r c' v I' H' hΦ re rl => ?_, fun ex c' cls d I' H' hx re xr => ?_⟩
    · obtain ⟨y2, gg⟩ := upd1 re
      have g12 := g.trans gg y1.sub
      cases r with
      | no => exact hΦ.elim
      | val d => exact k' _ _ v I' H' hΦ (y2.cons_val rl) (g12.sub fun a h => own_cons_val.mp h)
      | own b cb =>
        obtain ⟨e1, e2, e3, e4, e5⟩ := rl
        subst e1
        have nO : ¬ Own (δ1.set i (.own q c')) b := fun ho => by
          obtain ⟨jj, cc, ee⟩ := (own_upd hc).mp ho
          obtain ⟨_, _, w3⟩ := y1.own jj b cc ee
          obtain ⟨o, ho⟩ := w3.there
          rw [e3] at ho; cases ho
        refine k' _ _ _ I' H' hΦ (y2.cons_own nO e4 e5) ((g.trans ⟨gg.le, gg.keep, fun a ha => ?_⟩ y1.sub))
        obtain ⟨jj, cc, ee⟩ := ha
        cases jj with
        | zero =>
          simp at ee
          obtain ⟨rfl, rfl⟩ := ee
          exact .inr e3
        | succ jj => exact gg.new a ⟨jj, cc, by simpa using ee⟩
    · obtain ⟨y2, gg⟩ := upd1 re
      exact (fu.go g y1.sub) ex _ σ I' H' cls d hx y2 gg xr)
/-- x.m() -/
theorem de_methM0 {S : MSp} {i : Nat} {y m : Str} {py apos : Pos} {q : Addr} {ks0 : List Str} {ds0 : List D} {pl : Sem Bool} (F : FnOk G.X.prog G.X.w G.X.K G.X.mg G.X.base (L2N.CX G.X.prog G.X.w) j f fd ps (spM G.X.K ps.length S)) (cl : Cls G.X.K C) (hm : Meth G.X.K C m f) (hb : Binds G.X.K fd ps [])
    (hi : Nth G.X.N i y) (hδ : δ[i]? = some (.own q (.obj C ks0 ds0))) (hk0 : m ∉ ks0)
    (h : 1 = ps.length ∧ S (.obj C ks0 ds0) [] (fun r c' => okR r (Put δ i (.own q c') (Φ r))) (fun x c' => Put δ i (.own q c') (G.Ξ x)))
    (hr : Room k G.X.A) (hj : j ≤ k) (tk : L2N.Takes G.X G.W) (hv : Vis G.X.env.scope y) (hd : (y == ("__debug__" : Str)) = false := by decide) (hcd : (y == ("__classdict__" : Str)) = false := by decide)
    (ht : eval (.Call (.Attribute (.Name y py) m apos) [] [] pos) G.X.env = (do
      let ov ← eval (.Name y py) G.X.env
      standAt apos.atName
      let (f, first) ← holding [ov] (getMethod ov m pl)
      callWith pos f first (backTo pos (starEach [] G.X.env)) (backToKw pos (keywordEach [] G.X.env))) := by rfl) :
    de G (.Call (.Attribute (.Name y py) m apos) [] [] pos) δ Φ := fun σ I H z fu Q k' =>
  (pe_methS0 (E := fun σ => WE G.W σ) PE.of cl hm F (hr.mono hj) hb (fun σ => L2N.passAt tk σ) ht).to (by
    obtain ⟨h1, h2, h3⟩ := z.own i q _ hδ
    refine we_slot hi hv hd hcd h1 ?_
    obtain ⟨dx, fl, x1, x2, x3⟩ := id h3
    refine ⟨q, dx, fl, rfl, x1, look_none (by rw [x2]; exact hk0), ?_⟩
    obtain ⟨hl, hS⟩ := h
    have y1 := z
    have hc := hδ
    have g : Goes (Own δ) (Own δ) I H I H := Goes.refl
    have rp : Reps G.X.K I [] [] := Reps.nil
    obtain ⟨g1, g2, g3⟩ := y1.own i q _ hc
    have upd1 : ∀ {I' H' : Hp} {c' : Cell}, ResM G.X.K I H I' H' q c' → EnvR G.X.K I' H' σ (δ.set i (.own q c')) ∧ Goes (Own δ) (Own (δ.set i (.own q c'))) I H I' H' := fun {I' H' c'} re => by
      have hlt : i < δ.length := (List.getElem?_eq_some_iff.mp hc).1
      have key : ∀ (j : Nat) (y : DV), (δ.set i (.own q c'))[j]? = some y → (j = i ∧ y = .own q c') ∨ (j ≠ i ∧ δ[j]? = some y) := fun j y e => by
        by_cases hj : j = i
        · subst hj
          rw [List.getElem?_set_self hlt] at e
          exact .inl ⟨rfl, (Option.some.inj e).symm⟩
        · rw [List.getElem?_set_ne (Ne.symm hj)] at e
          exact .inr ⟨hj, e⟩
      refine ⟨⟨re.sub, by simp [y1.len], fun j d e => ?_, fun j a e' e => ?_, fun j l a c1 c2 e1 e2 => ?_⟩, re.le, fun a o h i np => ?_, fun a ha => .inl ((own_upd hc).mp ha)⟩
      · rcases key j _ e with ⟨_, z⟩ | ⟨_, z⟩
        · cases z
        · obtain ⟨v, w1, w2⟩ := y1.val j d z
          exact ⟨v, w1, Rep.mono re.le _ _ w2⟩
      · rcases key j _ e with ⟨z1, z2⟩ | ⟨hj, z⟩
        · cases z2
          rw [z1]
          exact ⟨g1, re.ip, re.cell⟩
        · obtain ⟨w1, w2, w3⟩ := y1.own j a e' z
          have hne : a ≠ q := fun y => by
            rw [y] at z
            exact hj (y1.inj j i q _ _ z hc)
          obtain ⟨o, ho⟩ := w3.there
          exact ⟨w1, (re.keep a o hne ho).2 w2, w3.mono re.le fun o ho => (re.keep a o hne ho).1⟩
      · rcases key j _ e1 with ⟨y1', y2⟩ | ⟨hj, y⟩ <;> rcases key l _ e2 with ⟨z1, z2⟩ | ⟨hk', z⟩
        · rw [y1', z1]
        · cases y2
          exact absurd (y1.inj l i q _ _ z hc) hk'
        · cases z2
          exact absurd (y1.inj j i q _ _ y hc) hj
        · exact y1.inj j l a c1 c2 y z
      · have hne : a ≠ q := fun e => np ⟨_, _, by rw [e]; exact hc⟩
        obtain ⟨z1, z2⟩ := re.keep a o hne h
        exact ⟨z1, z2 i⟩
    show spM G.X.K ps.length S [V.ref q] H Q (WE G.W σ)
    refine ⟨by simpa using hl, q, [], I, _, [], _, _, rfl, y1.sub, g2, g3, rp, hS, fun r c' v I' H' hΦ re rl => ?_, fun ex c' cls d I' H' hx re xr => ?_⟩
    · obtain ⟨y2, gg⟩ := upd1 re
      have g12 := g.trans gg y1.sub
      cases r with
      | no => exact hΦ.elim
      | val d => exact k' _ _ v I' H' hΦ (y2.cons_val rl) (g12.sub fun a h => own_cons_val.mp h)
      | own b cb =>
        obtain ⟨e1, e2, e3, e4, e5⟩ := rl
        subst e1
        have nO : ¬ Own (δ.set i (.own q c')) b := fun ho => by
          obtain ⟨jj, cc, ee⟩ := (own_upd hc).mp ho
          obtain ⟨_, _, w3⟩ := y1.own jj b cc ee
          obtain ⟨o, ho⟩ := w3.there
          rw [e3] at ho; cases ho
        refine k' _ _ _ I' H' hΦ (y2.cons_own nO e4 e5) ((g.trans ⟨gg.le, gg.keep, fun a ha => ?_⟩ y1.sub))
        obtain ⟨jj, cc, ee⟩ := ha
        cases jj with
        | zero =>
          simp at ee
          obtain ⟨rfl, rfl⟩ := ee
          exact .inr e3
        | succ jj => exact gg.new a ⟨jj, cc, by simpa using ee⟩
    · obtain ⟨y2, gg⟩ := upd1 re
      exact (fu.go g y1.sub) ex _ σ I' H' cls d hx y2 gg xr)
end
end Zd
/-! Deep data: len, in, == of instances; isinstance. -/
namespace Zd
open PySem PySem.Spec L2
section
variable {X : Cx} {Ψ : DV → Prop} {j : Nat} {f C : Addr} {fd : FuncData} {ps : List Str} {S : PSp} {ks : List Str} {ds : List D}
/-- a def asked with data, nothing raised -/
theorem spP_ask {Q : VK} {vs : List V} {I H : Hp} {es : List D} {n : Nat} (s : Le I H) (rp : Reps X.K I es vs) (hl : es.length = n) {Ψ' : DV → Prop} (hS : S es Ψ' (fun _ => False)) (q : ∀ r v I' H', Ψ' r → Res X.K I H I' H' r v → Q v H') : spP X.K n S vs H Q (fun _ _ _ => False) :=
  ⟨by rw [rp.length]; exact hl, I, es, Ψ', fun _ => False, s, rp, hS, q, fun _ _ _ _ _ z => z.elim⟩
theorem dr_lenO (F : FnOk X.prog X.w X.K X.mg X.base (L2N.CX X.prog X.w) j f fd ps (spP X.K ps.length S)) (hs : PySem.W.findIn X.K (.ref C) "__len__" = some (some (.ref f))) (hf : PySem.W.isFn X.K (.ref f) = true) (hb : Binds X.K fd ps []) (hr : Room (j + 1) X.A) (hl : 1 = ps.length)
    (hS : S [.obj C ks ds] (fun r => ∃ n : Int, r = .val (.int n) ∧ (0 ≤ n ∧ n < 2 ^ 63) ∧ Ψ (.val (.int n))) fun _ => False) : DR X.K (wcall X (.builtin "len")) [.obj C ks ds] Ψ := dr_1 fun I H v s r Q q => by
  intro pins s0 σ us Iv vals
  obtain ⟨a, dx, fs, rfl, h1, h2, h3⟩ := id r
  cases vals with
  | cons ra vals =>
    cases vals
    cases ra
    obtain ⟨mA, O, _⟩ := ins_get Iv.hok (s _ _ h1)
    obtain ⟨od, J, _⟩ := O.look
    obtain ⟨m, hF⟩ := Iv.fr
    refine PySem.W.len_K hF Iv.ok.mod.kin J hs hf (run_at (E := fun _ _ _ _ => False) (Q := fun v H' => ∃ n : Int, v = .int n ∧ (0 ≤ n ∧ n < 2 ^ 63) ∧ Q (.int n) H') F ⟨hr.in1, rfl⟩ hb (no_ex σ) Iv (vs := [.ref a]) (.cons rfl .nil) (spP_ask s (Reps.cons r Reps.nil) hl hS fun r' v' I' H' ⟨n, hr', hn, hΨ⟩ re => ?_) fun u s' hu => ?_)
    · subst hr'
      have e := re.rel
      cases (show v' = .int n from e)
      exact ⟨n, rfl, hn, q _ _ I' H' hΨ re⟩
    · obtain ⟨v', H', I', rv, n, rfl, hn, hq⟩ := hu
      obtain ⟨t, rfl⟩ := rv
      exact ⟨hn, .int n, H', I'.tok _, ⟨_, rfl⟩, hq⟩
theorem dr_inO {d : D} (F : FnOk X.prog X.w X.K X.mg X.base (L2N.CX X.prog X.w) j f fd ps (spP X.K ps.length S)) (hs : PySem.W.findIn X.K (.ref C) "__contains__" = some (some (.ref f))) (hf : PySem.W.isFn X.K (.ref f) = true) (hb : Binds X.K fd ps []) (hr : Room j X.A) (hl : 2 = ps.length)
    (hS : S [.obj C ks ds, d] (fun r => ∃ b : Bool, r = .val (.bl b) ∧ Ψ (.val (.bl b))) fun _ => False) : DR X.K (R2l (wop X (compareOp .In))) [d, .obj C ks ds] Ψ := dr_R2 fun I H v w s r1 r2 Q q => by
  intro pins s0 σ u1 u2 Iv rx ry
  obtain ⟨a, dx, fs, rfl, h1, h2, h3⟩ := id r2
  cases ry
  obtain ⟨mA, O, _⟩ := ins_get Iv.hok (s _ _ h1)
  obtain ⟨od, J, _⟩ := O.look
  obtain ⟨m, hF⟩ := Iv.fr
  refine PySem.W.in_K hF Iv.ok.mod.kin J hs hf (run_at (E := fun _ _ _ _ => False) (Q := fun v H' => ∃ b : Bool, v = .bl b ∧ Q (.bl b) H') F ⟨hr, rfl⟩ hb (no_ex σ) Iv (vs := [.ref a, v]) (.cons rfl (.cons rx .nil)) (spP_ask s (Reps.cons r2 (Reps.cons r1 Reps.nil)) hl hS fun r' v' I' H' ⟨n, hr', hΨ⟩ re => ?_) fun u s' hu => ?_)
  · subst hr'
    have e := re.rel
    cases (show v' = .bl n from e)
    exact ⟨n, rfl, q _ _ I' H' hΨ re⟩
  · obtain ⟨v', H', I', rv, n, rfl, hq⟩ := hu
    cases rv
    exact PySem.wpAny_truthy_bool ⟨.bl n, H', I', rfl, hq⟩
theorem dr_eqO {ks2 : List Str} {ds2 : List D} (F : FnOk X.prog X.w X.K X.mg X.base (L2N.CX X.prog X.w) j f fd ps (spP X.K ps.length S)) (hs : PySem.W.findIn X.K (.ref C) "__eq__" = some (some (.ref f))) (hf : PySem.W.isFn X.K (.ref f) = true) (hb : Binds X.K fd ps []) (hr : Room j X.A) (hl : 2 = ps.length)
    (hS : S [.obj C ks ds, .obj C ks2 ds2] (fun r => ∃ b : Bool, r = .val (.bl b) ∧ Ψ (.val (.bl b))) fun _ => False) : DR X.K (R2l (wop X (compareOp .Eq))) [.obj C ks ds, .obj C ks2 ds2] Ψ := dr_R2 fun I H v w s r1 r2 Q q => by
  intro pins s0 σ u1 u2 Iv rx ry
  obtain ⟨a, dx, fs, rfl, h1, h2, h3⟩ := id r1
  obtain ⟨a', dx', fs', rfl, h1', h2', h3'⟩ := id r2
  cases rx
  cases ry
  obtain ⟨mA, O, _⟩ := ins_get Iv.hok (s _ _ h1)
  obtain ⟨od, J, _⟩ := O.look
  obtain ⟨mA', O', _⟩ := ins_get Iv.hok (s _ _ h1')
  obtain ⟨od', J', _⟩ := O'.look
  obtain ⟨m, hF⟩ := Iv.fr
  show wpAny (model X.prog X.w) X.A (richCompare .Eq (.ref a) (.ref a')) (EP X pins σ Q) X.xe s0
  refine PySem.W.cmp_K (op := .Eq) (tb := .ref C) hr.units0 hF Iv.ok.mod.kin J J'.type (by simp [PySem.W.notFirst]) hs hf (run_at (E := fun _ _ _ _ => False) (Q := fun v H' => ∃ b : Bool, v = .bl b ∧ Q (.bl b) H') F ⟨hr, rfl⟩ hb (no_ex σ) Iv (vs := [.ref a, .ref a']) (.cons rfl (.cons rfl .nil)) (spP_ask s (Reps.cons r1 (Reps.cons r2 Reps.nil)) hl hS fun r' v' I' H' ⟨n, hr', hΨ⟩ re => ?_) fun u s' hu => ?_)
  · subst hr'
    have e := re.rel
    cases (show v' = .bl n from e)
    exact ⟨n, rfl, q _ _ I' H' hΨ re⟩
  · obtain ⟨v', H', I', rv, n, rfl, hq⟩ := hu
    cases rv
    exact ⟨.bl n, H', I', rfl, hq⟩
/-- isinstance(o, C') -/
theorem dr_isiO {b : Bool} (cl : Cls X.K C) (ha : PySem.W.findIn X.K (.ref C) "__class__" = some (some (.builtin "object.__class__")))
      (hn : PySem.W.specialIn X.K (.builtin "object.__class__") "__get__" = some (some (.builtin "getset_descriptor.__get__"))) (htk : PySem.W.takesIn X.K (.builtin "object.__class__") = some true)
      (hm : PySem.W.mroIn X.K C (.type "object") = some true) {c : Value} {vc : V} (hc : RelV vc c) (hcu : ∀ u, RelV vc u → u = c) (e : PySem.W.kitOne X.K (.ref C) c = some b) (h : Ψ (.val (.bl b))) : DR X.K (wcall X (.builtin "isinstance")) [.obj C ks ds, .raw vc] Ψ := dr_2 fun I H v w s r1 r2 Q q => by
  intro pins s0 σ us Iv vals
  obtain ⟨a, dx, fs, rfl, h1, h2, h3⟩ := id r1
  cases (show _ = _ from r2)
  cases vals with
  | cons ra vals =>
    cases vals with
    | cons rb vals =>
      cases vals
      cases ra
      cases hcu _ rb
      exact isinst_ok (x := .ref a) Iv rfl (.ins (s _ _ h1) cl ha hn htk hm) e fun tk => ⟨.bl b, H, Iv.tok _, rfl, q _ _ I H h (Res.val s rfl)⟩
end
end Zd
/-! enumerate(a tuple). -/
namespace PySem
open Sem (wp)
open AutoSeq1 (wpAny_loadPart')
theorem meets_enumerate_newT (l : Addr) (items : Array Value) (n : Nat) (dct : Option Addr) (sl : Array (Option Value)) :
    Meets (Builtin.«enumerate.__new__» ⟨[.type "enumerate", .ref l], []⟩) (fun _ R s => s.heap.get? l = some { cls := .type "tuple", dict := dct, data := .seq items n, slots := sl } ∧
      R (.ok (.ret (.ref (s.heap.push { cls := .type "tuple_iterator", data := .fields #[.ref l, .int 0 0] }).objs.size)))
        { s with heap := (s.heap.push { cls := .type "tuple_iterator", data := .fields #[.ref l, .int 0 0] }).push { cls := .type "enumerate", data := .fields #[.none, .bool false, .ref s.heap.objs.size, rawInt 0, .none, .none] } }) :=
  .of_wp fun prog w A R s h => by
    obtain ⟨hp, g, d, tk, os⟩ := s; obtain ⟨hl, h⟩ := h
    have hsub := sub_enumerate
    have hL : Heap.IsTuple (Shared.heap ⟨hp, g, d, tk, os⟩) l items := ⟨_, hl, rfl, n, rfl⟩
    wp_walk using wpAny_loadPart' hl
    refine wpAny_stack_any fun st => wpAny_pure ?_
    split
    · rename_i c _ _ _ _ _
      cases (c == Value.type "enumerate")
      · wp_walk using wpAny_loadPart' hl, wpAny_pyIter_tuple hL
        exact ⟨_, rfl, h⟩
      · wp_walk using wpAny_loadPart' hl, wpAny_pyIter_tuple hL
        exact ⟨_, rfl, h⟩
    · wp_walk using wpAny_loadPart' hl, wpAny_pyIter_tuple hL
      exact ⟨_, rfl, h⟩
section
variable {prog : Program} {w : World} {A : Around} {E : Value → Shared → Prop} {s : Shared}
theorem call_enumerate_tuple {l : Addr} {items : Array Value} {Q : Value → Shared → Prop} (hL : s.heap.IsTuple l items)
    (h : ∀ h', IsEnum h' (s.heap.objs.size + 1) s.heap.objs.size 0 .none → h'.IsTupleIter s.heap.objs.size l 0 → h'.objs.size = s.heap.objs.size + 2 →
      (∀ b o, s.heap.get? b = some o → h'.get? b = some o) → Q (.ref (s.heap.objs.size + 1)) { s with heap := h' }) :
    wpAny (model prog w) A (call (.type "enumerate") [.ref l]) Q E s := by
  obtain ⟨⟨c, dct, dt, sl⟩, hl, hc, n, hd⟩ := hL
  replace hc : c = .type "tuple" := hc
  replace hd : dt = .seq items n := hd
  subst hc hd
  refine callType_new F.called_enumerate (by decide) (F.typeCall_enumerate_1 _) (F.newCall_enumerate_1 _) (fun obj => F.args_object_init_2 obj _) F.entry_enumerate_new
    (meets_enumerate_newT l items n dct sl) ⟨hl, ?_⟩
  have hz : (s.heap.push { cls := .type "tuple_iterator", data := .fields #[.ref l, .int 0 0] }).objs.size = s.heap.objs.size + 1 := Heap.size_push ..
  show _ ∧ _
  rw [hz]
  have he : IsEnum ((s.heap.push { cls := .type "tuple_iterator", data := .fields #[.ref l, .int 0 0] }).push
      { cls := .type "enumerate", data := .fields #[.none, .bool false, .ref s.heap.objs.size, rawInt 0, .none, .none] }) (s.heap.objs.size + 1) s.heap.objs.size 0 .none := by
    have := Heap.get?_push_size (s.heap.push { cls := .type "tuple_iterator", data := .fields #[.ref l, .int 0 0] })
      (o := { cls := .type "enumerate", data := .fields #[.none, .bool false, .ref s.heap.objs.size, rawInt 0, .none, .none] }) rfl
    rw [hz] at this; exact this
  refine ⟨⟨_, he, rfl⟩, h _ he ⟨_, Heap.get?_push_of_some _ (Heap.get?_push_size _ rfl), rfl, rfl⟩ (by rw [Heap.size_push, hz]) fun b o x => Heap.get?_push_of_some _ (Heap.get?_push_of_some _ x)⟩
theorem wpAny_nextOf_tuple_item {it l : Addr} {i : Nat} {items} {x : Value} {Q : Value → Shared → Prop} (hit : s.heap.IsTupleIter it l i)
    (hl : s.heap.IsTuple l items) (hx : items[i]? = some x)
    (hQ : ∀ h', h'.IsTupleIter it l (i + 1) → Heap.SameBut it s.heap h' → Q x { s with heap := h' }) :
    wpAny (model prog w) A (Builtin.SmallTypes.nextOf (.ref it)) Q E s := by
  obtain ⟨o, ho, hc, hd⟩ := id hit
  obtain ⟨ol, hol, _, nl, hdl⟩ := hl
  unfold Builtin.SmallTypes.nextOf
  refine wpAny_bind (wpAny_callSpecial?_slot (name := Str.ofString "__next__") hit.typeIs F.slot_tuple_iterator_next
    (wpAny_call_entry F.slot_tuple_iterator_next hit.typeIs F.entry_tuple_iterator_next ?_ (F.args_tuple_iterator_next_1 _)))
  show wpAny _ _ (field (.ref it) 0 >>= _) _ _ s
  refine wpAny_bind (wpAny_field ho hd (x := .ref l) rfl ?_)
  show wpAny _ _ (if (Value.ref l == Value.none) = true then _ else _) _ _ s
  rw [if_neg (show ¬ ((Value.ref l == Value.none) = true) from Bool.false_ne_true)]
  show wpAny _ _ (field (.ref it) 1 >>= _) _ _ s
  refine wpAny_bind (wpAny_field ho hd (x := .int i 0) rfl ?_)
  show wpAny _ _ (seqItems? (.ref l) >>= _) _ _ s
  refine wpAny_bind (wpAny_seqItems hol hdl ?_)
  simp only [Int.toNat_natCast, hx]
  refine wpAny_bind (wpAny_setField ho hd (by simp) (wpAny_pure ⟨x, rfl, wpAny_pure (hQ _ ?_ (Heap.SameBut.update ..))⟩))
  exact ⟨_, Heap.get?_update_self _ ho (Obj.isFreed_of_fields (Obj.data_mapFields hd _)), (Obj.cls_mapFields ..).trans hc, by
    rw [Obj.data_mapFields hd]; simp [rawInt]⟩
theorem wpAny_nextOf_tuple_end {it l : Addr} {i : Nat} {items} {Q : Value → Shared → Prop} (hh : A.handled = none)
    (hit : s.heap.IsTupleIter it l i) (hl : s.heap.IsTuple l items) (hx : items[i]? = none)
    (hE : ∀ h' e, Heap.ExtBut it s.heap h' → (∃ o, h'.get? e = some o ∧ o.cls = .type "StopIteration") → E (.ref e) { s with heap := h' }) :
    wpAny (model prog w) A (Builtin.SmallTypes.nextOf (.ref it)) Q E s := by
  obtain ⟨o, ho, hc, hd⟩ := id hit
  obtain ⟨ol, hol, _, nl, hdl⟩ := hl
  unfold Builtin.SmallTypes.nextOf
  refine wpAny_bind (wpAny_callSpecial?_slot (name := Str.ofString "__next__") hit.typeIs F.slot_tuple_iterator_next
    (wpAny_call_entry F.slot_tuple_iterator_next hit.typeIs F.entry_tuple_iterator_next ?_ (F.args_tuple_iterator_next_1 _)))
  show wpAny _ _ (field (.ref it) 0 >>= _) _ _ s
  refine wpAny_bind (wpAny_field ho hd (x := .ref l) rfl ?_)
  show wpAny _ _ (if (Value.ref l == Value.none) = true then _ else _) _ _ s
  rw [if_neg (show ¬ ((Value.ref l == Value.none) = true) from Bool.false_ne_true)]
  show wpAny _ _ (field (.ref it) 1 >>= _) _ _ s
  refine wpAny_bind (wpAny_field ho hd (x := .int i 0) rfl ?_)
  show wpAny _ _ (seqItems? (.ref l) >>= _) _ _ s
  refine wpAny_bind (wpAny_seqItems hol hdl ?_)
  simp only [Int.toNat_natCast, hx]
  refine wpAny_bind (wpAny_rule (wpAny_bind (wpAny_setField ho hd (by simp) ?_)))
  show wpAny _ _ (newExc (.type "StopIteration") [] >>= _) _ _ _
  refine wpAny_bind ?_
  simp only [newExc, newTuple]
  refine wpAny_bind (wpAny_newObj_type ?_ (by size_fits))
  refine wpAny_bind (m := firstArgMember _ _) (wpAny_of_eq (a := Value.none) (by first | rfl | (simp only [firstArgMember]; rfl)) ?_)
  refine wpAny_newObj_type ?_ (by size_fits)
  simp only [raiseNew]
  refine wpAny_bind (wpAny_handled ?_)
  first | rw [show A.in1.handled = none from hh] | rw [hh]
  refine wpAny_bind (wpAny_pure (wpAny_throw ?_))
  exact hE _ _ (((Heap.SameBut.update ..).extBut.push _).push _) ⟨_, Heap.get?_push_size _ rfl, rfl⟩
end
theorem Draws.tup {prog : Program} {w : World} {A : Around} (hh : A.handled = none) (it l : Addr) (hne : l ≠ it) (items : Array Value) :
    Draws prog w A it [it, l] items.size (fun i v => items[i]? = some v) (fun i h => h.IsTupleIter it l i ∧ h.IsTuple l items) where
  live := fun _ _ st => let ⟨o, ho, _⟩ := st.1; ⟨o, ho⟩
  frame := fun _ _ _ st hk => by
    obtain ⟨⟨o, ho, r⟩, ⟨o2, ho2, r2⟩⟩ := st
    exact ⟨⟨o, hk it (by simp) o ho, r⟩, ⟨o2, hk l (by simp) o2 ho2, r2⟩⟩
  item := fun i s Q E hi st hQ => by
    refine wpAny_nextOf_tuple_item st.1 st.2 (x := items[i]) (by simp [hi]) fun h' hit' hs' => ?_
    obtain ⟨_, ⟨o2, ho2, r2⟩⟩ := st
    exact hQ _ h' s.toks (by simp [hi]) ⟨hit', ⟨o2, hs'.extBut l o2 hne ho2, r2⟩⟩ hs'
  done := fun s Q E st hE => wpAny_nextOf_tuple_end hh st.1 st.2 (by simp) hE
end PySem
namespace L2
open PySem PySem.Spec PyProof.Rows
/-- the tuple at a, each item in a new pair -/
def IteT (K : PySem.W.Frag) (a : Addr) : It :=
  ⟨fun i H => ∃ (xs : List V) (x : V), SqT K H a xs ∧ xs[i]? = some x, fun i H v H' => ∃ T x, v = .ref T ∧ H T = none ∧ H' = upd H T (.tup [.int (i : Nat), x]) ∧ ∀ xs, SqT K H a xs → xs[i]? = some x, fun i H => ∃ xs : List V, SqT K H a xs ∧ xs.length ≤ i⟩
theorem turn_enumT {P : Program} {w : World} {K : PySem.W.Frag} {elts : List Expr} {kk : Nat} {tpos : Pos} (a e it : Addr) (hai : a ≠ it) (hae : a ≠ e) :
    Turn P w K (.Tuple elts kk tpos) (IteT K a) [e, it] e (fun i h => (∃ old, IsEnum h e it ((i : Nat) : Int) old) ∧ h.IsTupleIter it a i ∧ e ≠ it) where
  mem := by simp
  obj := fun i h st b hb => by
    obtain ⟨⟨old, he⟩, ⟨o, ho, hc, hd⟩, _⟩ := st
    have e' : b = e ∨ b = it := by simpa using hb
    rcases e' with z | z
    · rw [z]; exact ⟨_, he, fun v q => nomatch q⟩
    · rw [z]; exact ⟨o, ho, fun v q => by rw [hd] at q; cases q⟩
  keep := fun i h h' st k => let ⟨⟨old, he⟩, ⟨o, ho, r⟩, hne⟩ := st; ⟨⟨old, k e (by simp) _ he⟩, ⟨o, k it (by simp) o ho, r⟩, hne⟩
  item := by
    intro X hP hw hK hc i pins s σ H E I hf st hg
    subst hP hw hK
    obtain ⟨⟨old, he⟩, hit, hne⟩ := st
    obtain ⟨xs, x, hq, hx⟩ := hg
    obtain ⟨its, rv, p, hz⟩ := I.tuple hq
    obtain ⟨u, hu, ru⟩ := rv.get hx
    have hel : e < s.heap.objs.size := Heap.lt_size he
    have hil : it < s.heap.objs.size := by obtain ⟨_, q, _⟩ := hit; exact Heap.lt_size q
    have hlt : i < its.toArray.size := by
      rw [List.size_toArray]
      exact (List.getElem?_eq_some_iff.mp hu).1
    refine wpAny_pyNext_enum_itemD (Draws.tup (show X.A.in1.handled = none from I.ok.hd hc) it a hai its.toArray) he ⟨hit, p⟩ hlt hne (by
      simp only [List.mem_cons, List.not_mem_nil, or_false, not_or]; exact ⟨hne, Ne.symm hae⟩) fun y h' tk hy ho hst' hT hsz hk => ?_
    obtain ⟨hit', _⟩ := hst'
    have hyu : y = u := by
      have : its[i]? = some y := by simpa using hy
      rw [hu] at this
      exact (Option.some.inj this).symm
    subst hyu
    refine ⟨_, rfl, wpAny_letOwnedTupleGo_enum (s := { s with heap := h', toks := tk + 1 }) ho fun h'' he' sb => ?_⟩
    have hT2 : h''.get? s.heap.objs.size = some { cls := .type "tuple", data := .seq #[.int i tk, y] } := (sb.2 _ (Nat.ne_of_gt hel)).trans hT
    have new : ObjOk X.prog X.w (upd H s.heap.objs.size (.tup [.int (i : Nat), x])) h'' s.heap.objs.size (.tup [.int (i : Nat), x]) :=
      ⟨by show 2 ≤ sizeLine; decide, [.int i tk, y], .cons ⟨_, rfl⟩ (.cons ru .nil), ⟨_, hT2, rfl, _, rfl⟩⟩
    have I1 : Inv X pins σ (upd H s.heap.objs.size (.tup [.int (i : Nat), x])) { s with heap := h'', toks := tk + 1 } :=
      I.turnedNew (ch := [e, it]) (fun b ob hb q => (sb.2 b (fun z => hb (by simp [z]))).trans (hk b ob (fun z => hb (by simp [z])) (fun z => hb (by simp [z])) q)) hf (Nat.le_refl _) new
    refine ⟨.ref s.heap.objs.size, _, I1, rfl, ⟨_, x, rfl, I.hok.fresh (Nat.le_refl _), rfl, fun ys hy => by rw [I.tuple_inj hy hq]; exact hx⟩, ⟨⟨y, ?_⟩, ?_, hne⟩, fun b hb => ?_⟩
    · have e1 : ((i + 1 : Nat) : Int) = (i : Int) + 1 := by omega
      rw [e1]; exact he'
    · obtain ⟨o, ho', r⟩ := hit'
      exact ⟨o, (sb.2 it (Ne.symm hne)).trans ho', r⟩
    · have hb' : b < s.heap.objs.size := by
        have e' : b = e ∨ b = it := by simpa using hb
        rcases e' with z | z
        · rw [z]; exact hel
        · rw [z]; exact hil
      rw [upd_ne (Nat.ne_of_lt hb')]
      exact (hf b hb).1
  done := by
    intro X hP hw hK hc i pins s σ H E I hf st hg
    subst hP hw hK
    obtain ⟨⟨old, he⟩, hit, hne⟩ := st
    obtain ⟨xs, hq, hx⟩ := hg
    obtain ⟨its, rv, p, hz⟩ := I.tuple hq
    obtain ⟨f0, f1, f2, f3, f4, f5⟩ := hf it (by simp)
    have hl := rv.length
    have hT : s.TypeIs (.ref e) "enumerate" := ⟨_, he, rfl⟩
    unfold pyNext
    refine wpAny_bind (wpAny_attempt (wpAny_callSpecial?_slot (name := Str.ofString "__next__") hT F.slot_enumerate_next
      (wpAny_call_entry F.slot_enumerate_next hT F.entry_enumerate_next ?_ (F.args_enumerate_next_1 _))))
    show wpAny _ _ (field (.ref e) 2 >>= _) _ _ _
    refine wpAny_bind (wpAny_field he rfl (x := .ref it) rfl ?_)
    refine wpAny_bind (wpAny_nextOf_tuple_end (show X.A.in1.handled = none from I.ok.hd hc) hit p (by simp; omega) fun h' x he' hx' => ?_)
    obtain ⟨o, ho, hc'⟩ := hx'
    refine wpAny_bind (wpAny_isInstance (T := "StopIteration") (b := true) ⟨o, ho, hc'⟩ isSubtype_stop ?_)
    exact wpAny_pure ⟨rfl, I.turned (t' := s.toks) (fun b o hb q => he' b o hb q) f0 f1 f3 f4 f5⟩
  self := fun A i s Q E st h => let ⟨⟨_, he⟩, _⟩ := st; wpAny_pyIter_enum he h
def iEnumU (K : PySem.W.Frag) (ta : TA) : TI := fun σ H R => ta σ H fun vs H1 => ∃ a xs, vs = [.ref a] ∧ ((SqL K H1 a xs ∧ R (Ite K a) H1) ∨ (SqT K H1 a xs ∧ R (IteT K a) H1))
theorem pi_enumU {X : Cx} {e : Expr} {ta : TA} {p pos tpos : Pos} {elts : List Expr} {kk : Nat} (hg : Gl X "enumerate") (hm : X.mg "enumerate" = none) (ha : PA X [e] ta) (hs : starEach [e] X.env = [(false, eval e X.env)] := by rfl) :
    PI X (.Tuple elts kk tpos) (.Call (.Name "enumerate" p) [e] [] pos) (iEnumU X.K ta) := by
  refine ⟨fun pins s σ H R I h => ?_⟩
  refine Call_ (ld_blt I hg hm boot_enumerate (PyProof.Rows.callWith_type1 (thn (ha.run pos pins s σ H _ I h) fun us s1 ⟨vs, H1, I1, r1, q1⟩ => ?_) hs rfl))
  obtain ⟨a, xs, ex, q1⟩ := q1
  subst ex
  cases r1 with
  | cons r rr =>
    cases rr
    cases r
    have fp : ∀ b ∈ [s1.heap.objs.size + 1, s1.heap.objs.size], s1.heap.objs.size ≤ b := fun b hb => by
      have e' : b = s1.heap.objs.size + 1 ∨ b = s1.heap.objs.size := by simpa using hb
      rcases e' with z | z
      · rw [z]; exact Nat.le_add_right _ _
      · rw [z]; exact Nat.le_refl _
    rcases q1 with ⟨hq, q⟩ | ⟨hq, q⟩
    · obtain ⟨its, rv, p', hz⟩ := I1.list hq
      refine call_enumerate_list p'.isList fun h' he hit hsz hk => wpAny_pyIter_enum he ?_
      have I2 : Inv X pins σ H1 { s1 with heap := h' } := I1.kept (t' := s1.toks) hk
      exact ⟨s1.heap.objs.size + 1, [s1.heap.objs.size + 1, s1.heap.objs.size], _, _, H1, rfl, I2, turn_enum a (s1.heap.objs.size + 1) s1.heap.objs.size, ⟨⟨.none, he⟩, hit, Nat.succ_ne_self _⟩, fun b hb => I1.fpOk (fp b hb) (I1.hok.fresh (fp b hb)), q⟩
    · obtain ⟨its, rv, p', hz⟩ := I1.tuple hq
      have hal : a < s1.heap.objs.size := by obtain ⟨_, q, _⟩ := id p'; exact Heap.lt_size q
      refine call_enumerate_tuple p' fun h' he hit hsz hk => wpAny_pyIter_enum he ?_
      have I2 : Inv X pins σ H1 { s1 with heap := h' } := I1.kept (t' := s1.toks) hk
      exact ⟨s1.heap.objs.size + 1, [s1.heap.objs.size + 1, s1.heap.objs.size], _, _, H1, rfl, I2, turn_enumT a (s1.heap.objs.size + 1) s1.heap.objs.size (Nat.ne_of_lt hal) (Nat.ne_of_lt (Nat.lt_succ_of_lt hal)), ⟨⟨.none, he⟩, hit, Nat.succ_ne_self _⟩, fun b hb => I1.fpOk (fp b hb) (I1.hok.fresh (fp b hb)), q⟩
end L2
namespace Zd
open PySem PySem.Spec L2
section
variable {G : Gx} {δ : Env} {E : DE} {pos : Pos}
/-- for i, x in enumerate(a list, a tuple) -/
theorem di_enumU {a : Expr} {p tpos : Pos} {elts : List Expr} {kk : Nat} {Φ : Nat → (Nat → D → Prop) → Env → Prop} (h : dgs G [a] δ fun as δ1 => ∃ ds, (as = [.v (.lst ds)] ∨ as = [.v (.tup ds)]) ∧ Φ ds.length (fun i d => ∃ x, ds[i]? = some x ∧ d = .tup [.int (i : Int), x]) δ1)
    (hg : Gl G.X "enumerate") (hm : G.X.mg "enumerate" = none) (ha : PA G.X [a] (wes G.X [a])) (hs : starEach [a] G.X.env = [(false, eval a G.X.env)] := by rfl) : di G (.Tuple elts kk tpos) (.Call (.Name "enumerate" p) [a] [] pos) δ Φ := fun σ I H x f R q =>
  (pi_enumU hg hm ha hs).to (h σ I H x f _ fun as δ1 vs I1 H1 ⟨ds, e, hΦ⟩ y ar g => by
    rcases e with e | e
    · subst e
      obtain ⟨u, r, rfl, e1, e2⟩ := ar
      cases (show _ = _ from e2)
      obtain ⟨b, xs, rfl, h1, h2⟩ := e1
      refine ⟨b, xs, rfl, .inl ⟨SqL.of (y.sub _ _ h1), q _ _ δ1 _ I1 H1 hΦ y g fun i I' H' l1 l2 => ?_⟩⟩
      have hx := SqL.of (K := G.X.K) (l2 _ _ (l1 _ _ h1))
      refine ⟨fun hi => ?_, fun hi => ⟨xs, hx, by rw [h2.length]; omega⟩⟩
      obtain ⟨w, e1, e2⟩ := h2.get (List.getElem?_eq_getElem hi)
      refine ⟨⟨xs, w, hx, e1⟩, fun z H2 ⟨T, x, e3, e4, e5, e6⟩ => ?_⟩
      have := e6 xs hx
      rw [e1] at this
      cases this
      rw [e3, e5]
      have nI := le_none l2 e4
      refine ⟨_, .tup [.int (i : Int), _], ⟨_, List.getElem?_eq_getElem hi, rfl⟩, Res.fast l2 e4 ⟨T, _, rfl, .inl upd_same, ?_⟩⟩
      exact Reps.cons rfl (Reps.cons (Rep.mono (l1.trans (Le.new nI)) _ _ e2) Reps.nil)
    · subst e
      obtain ⟨u, r, rfl, e1, e2⟩ := ar
      cases (show _ = _ from e2)
      obtain ⟨b, xs, rfl, h1, h2⟩ := e1
      refine ⟨b, xs, rfl, .inr ⟨(y.sub.sqU h1).t, q _ _ δ1 _ I1 H1 hΦ y g fun i I' H' l1 l2 => ?_⟩⟩
      have hx : SqT G.X.K H' b xs := (l2.sqU (l1.sqU h1)).t
      refine ⟨fun hi => ?_, fun hi => ⟨xs, hx, by rw [h2.length]; omega⟩⟩
      obtain ⟨w, e1, e2⟩ := h2.get (List.getElem?_eq_getElem hi)
      refine ⟨⟨xs, w, hx, e1⟩, fun z H2 ⟨T, x, e3, e4, e5, e6⟩ => ?_⟩
      have := e6 xs hx
      rw [e1] at this
      cases this
      rw [e3, e5]
      have nI := le_none l2 e4
      refine ⟨_, .tup [.int (i : Int), _], ⟨_, List.getElem?_eq_getElem hi, rfl⟩, Res.fast l2 e4 ⟨T, _, rfl, .inl upd_same, ?_⟩⟩
      exact Reps.cons rfl (Reps.cons (Rep.mono (l1.trans (Le.new nI)) _ _ e2) Reps.nil))
end
end Zd
/-! What a def computes, as a function over lists of slots; each construct once, over the deep rules. -/
namespace Zf
open PySem PySem.Spec L2 Zd
open PyProof.Rows (envOfC)
abbrev En := Zd.Env
abbrev Ag := Zd.Arg
/-! ### slots without addresses -/
/-- an exception of an own class, by the class's number -/
structure Xn where
  c : Nat
  ks : List Str
  ds : List D
inductive Sl where
  | no
  | v (d : D)
  | o (t : Nat) (c : Cell)
  | x (e : Xn)
abbrev Sx := List Sl
/-- where the classes stand -/
class CA where
  at_ : Nat → Addr
def xo [CA] (x : Xn) : Exn := .mk (CA.at_ x.c) x.ks x.ds
/-- the argument that may change, the exception that is handled -/
structure Pi where
  p1 : Addr
  xa : Addr := 0
  xd : Addr := 0
  xn : Xn := ⟨0, [], []⟩
inductive Er (π : Pi) : DV → Sl → Prop where
  | no {x : DV} : Er π x .no
  | v {d : D} : Er π (.val d) (.v d)
  | o {p : Addr} {c : Cell} : Er π (.own p c) (.o 0 c)
  | t {c : Cell} : Er π (.own π.p1 c) (.o 1 c)
  | x : Er π (.val (.xex π.xa π.xd π.xn.ks π.xn.ds)) (.x π.xn)
inductive Ers (π : Pi) : En → Sx → Prop where
  | nil : Ers π [] []
  | cons {x : DV} {y : Sl} {δ : En} {s : Sx} : Er π x y → Ers π δ s → Ers π (x :: δ) (y :: s)
section
variable {π : Pi}
theorem Ers.get : ∀ {δ : En} {s : Sx} {i : Nat} {y : Sl}, Ers π δ s → s[i]? = some y → ∃ x, δ[i]? = some x ∧ Er π x y
  | _, _, i, _, .nil, e => by simp at e
  | _, _, 0, _, .cons h _, e => by simp at e; subst e; exact ⟨_, rfl, h⟩
  | _, _, i + 1, _, .cons _ r, e => by
    obtain ⟨x, h1, h2⟩ := r.get (i := i) (by simpa using e)
    exact ⟨x, by simpa using h1, h2⟩
theorem Ers.len : ∀ {δ : En} {s : Sx}, Ers π δ s → δ.length = s.length
  | _, _, .nil => rfl
  | _, _, .cons _ r => by rw [List.length_cons, List.length_cons, r.len]
theorem Ers.set : ∀ {δ : En} {s : Sx} {r : DV} {r' : Sl} (i : Nat), Ers π δ s → Er π r r' → Ers π (δ.set i r) (s.set i r')
  | _, _, _, _, i, .nil, _ => .nil
  | _, _, _, _, 0, .cons _ r, h => .cons h r
  | _, _, _, _, i + 1, .cons a r, h => .cons a (r.set i h)
theorem Ers.vals : ∀ (ds : List D), Ers π (ds.map .val) (ds.map .v)
  | [] => .nil
  | d :: ds => .cons .v (Ers.vals ds)
theorem Ers.nos : ∀ (n : Nat), Ers π (List.replicate n .no) (List.replicate n .no)
  | 0 => .nil
  | n + 1 => .cons .no (Ers.nos n)
theorem Ers.app : ∀ {δ δ' : En} {s s' : Sx}, Ers π δ s → Ers π δ' s' → Ers π (δ ++ δ') (s ++ s')
  | _, _, _, _, .nil, h => h
  | _, _, _, _, .cons a r, h => .cons a (r.app h)
theorem Er.val {x : DV} {d : D} (h : Er π x (.v d)) : x = .val d := by cases h; rfl
theorem Er.own {x : DV} {t : Nat} {c : Cell} (h : Er π x (.o t c)) : ∃ p, x = .own p c := by
  cases h with
  | o => exact ⟨_, rfl⟩
  | t => exact ⟨_, rfl⟩
/-- the same thing with another content -/
theorem Er.cell {p : Addr} {c0 c : Cell} {t : Nat} (h : Er π (.own p c0) (.o t c0)) : Er π (.own p c) (.o t c) := by
  cases h with
  | o => exact .o
  | t => exact .t
end
/-- what is own was own, at the same address -/
def Sm (δ δ' : En) : Prop := ∀ (i : Nat) (q : Addr) (c : Cell), δ'[i]? = some (.own q c) → ∃ c0, δ[i]? = some (.own q c0)
theorem Sm.refl {δ : En} : Sm δ δ := fun _ _ c h => ⟨c, h⟩
theorem Sm.trans {a b c : En} (h : Sm a b) (g : Sm b c) : Sm a c := fun i q k e => by
  obtain ⟨c0, e0⟩ := g i q k e
  exact h i q c0 e0
theorem Sm.set {δ : En} {i : Nat} {r : DV} (h : ∀ q c, r = .own q c → ∃ c0, δ[i]? = some (.own q c0)) : Sm δ (δ.set i r) := fun j q c e => by
  by_cases hj : j = i
  · subst hj
    have hl : j < δ.length := by
      have := (List.getElem?_eq_some_iff.mp e).1
      simpa using this
    rw [List.getElem?_set_self hl] at e
    exact h q c (Option.some.inj e)
  · rw [List.getElem?_set_ne (Ne.symm hj)] at e
    exact ⟨c, e⟩
theorem Sm.wipe {δ : En} {vs : List Nat} : Sm δ (wipeE δ vs) := fun j q c e => by
  by_cases h : j ∈ vs
  · exact DV.noConfusion (wipeE_in h e)
  · rw [wipeE_out h] at e
    exact ⟨c, e⟩
/-! ### results -/
inductive Re (α : Type) where
  | ok (a : α) (s : Sx)
  | ex (x : Xn) (s : Sx)
  | no
inductive Rs where
  | nx (s : Sx)
  | rt (r : Sl) (s : Sx)
  | bk (s : Sx)
  | ct (s : Sx)
  | ex (x : Xn) (s : Sx)
  | no
def Re.bind {α β : Type} (m : Re α) (k : α → Sx → Re β) : Re β :=
  match m with
  | .ok a s => k a s
  | .ex x s => .ex x s
  | .no => .no
def Re.to {α : Type} (m : Re α) (Φ : α → Sx → Prop) (Ξ : Xn → Sx → Prop) : Prop :=
  match m with
  | .ok a s => Φ a s
  | .ex x s => Ξ x s
  | .no => False
theorem Re.to_bind {α β : Type} {m : Re α} {k : α → Sx → Re β} {Φ : β → Sx → Prop} {Ξ : Xn → Sx → Prop} (h : (m.bind k).to Φ Ξ) : m.to (fun a s => (k a s).to Φ Ξ) Ξ := by
  cases m <;> exact h
theorem Re.to_mono {α : Type} {m : Re α} {Φ Φ' : α → Sx → Prop} {Ξ Ξ' : Xn → Sx → Prop} (h : m.to Φ Ξ) (f : ∀ a s, Φ a s → Φ' a s) (g : ∀ x s, Ξ x s → Ξ' x s) : m.to Φ' Ξ' := by
  cases m with
  | ok a s => exact f _ _ h
  | ex x s => exact g _ _ h
  | no => exact h
section
variable [CA] (π : Pi) (G : Gx)
abbrev GX : Xn → Sx → Prop := fun x s => ∀ δ', Ers π δ' s → G.Ξ (xo x) δ'
structure OkE (e : Expr) (f : Sx → Re Sl) : Prop where
  run : ∀ δ s Φ, Ers π δ s → (f s).to (fun r s' => ∀ r' δ', Er π r' r → Ers π δ' s' → Sm δ δ' → Φ r' δ') (GX π G) → de G e δ Φ
structure OkT (e : Expr) (f : Sx → Re Bool) : Prop where
  run : ∀ δ s Φ, Ers π δ s → (f s).to (fun r s' => ∀ δ', Ers π δ' s' → Sm δ δ' → Φ r δ') (GX π G) → dt G e δ Φ
structure OkW (e : Expr) (f : Sx → Re Bool) : Prop where
  run : ∀ δ s Φ, Ers π δ s → (f s).to (fun r s' => ∀ δ', Ers π δ' s' → Sm δ δ' → Φ r δ') (GX π G) → dw G e δ Φ
structure OkA (es : List Expr) (f : Sx → Re (List Ag)) : Prop where
  run : ∀ δ s Φ, Ers π δ s → (f s).to (fun r s' => ∀ δ', Ers π δ' s' → Sm δ δ' → Φ r δ') (GX π G) → dgs G es δ Φ
structure OkI (tg e : Expr) (f : Sx → Re (List D)) : Prop where
  run : ∀ δ s Φ, Ers π δ s → (f s).to (fun r s' => ∀ δ', Ers π δ' s' → Sm δ δ' → Φ r.length (fun i d => r[i]? = some d) δ') (GX π G) → di G tg e δ Φ
def Rs.to (m : Rs) (E : DE) : Prop :=
  match m with
  | .nx s => ∀ δ', Ers π δ' s → E.nx δ'
  | .rt r s => ∀ r' δ', Er π r' r → Ers π δ' s → E.rt r' δ'
  | .bk s => ∀ δ', Ers π δ' s → E.bk δ'
  | .ct s => ∀ δ', Ers π δ' s → E.ct δ'
  | .ex x s => ∀ δ', Ers π δ' s → G.Ξ (xo x) δ'
  | .no => False
structure OkS (st : Stmt) (f : Sx → Rs) : Prop where
  run : ∀ δ s E, Ers π δ s → (f s).to π G E → ds G st δ E
structure OkB (st : List Stmt) (f : Sx → Rs) : Prop where
  run : ∀ δ s E, Ers π δ s → (f s).to π G E → dsb G st δ E
structure OkG (tg : Expr) (js : List Nat) (g : D → Sx → Option Sx) : Prop where
  run : ∀ d δ s s' Φ, Ers π δ s → g d s = some s' → (∀ δ', Ers π δ' s' → Sm δ δ' → Φ δ') → dgt G tg d δ js Φ
end
instance [CA] {π : Pi} {G : Gx} {e : Expr} {f : Sx → Re Sl} : CoeFun (OkE π G e f) fun _ => ∀ δ s Φ, Ers π δ s → (f s).to (fun r s' => ∀ r' δ', Er π r' r → Ers π δ' s' → Sm δ δ' → Φ r' δ') (GX π G) → de G e δ Φ := ⟨OkE.run⟩
instance [CA] {π : Pi} {G : Gx} {e : Expr} {f : Sx → Re Bool} : CoeFun (OkT π G e f) fun _ => ∀ δ s Φ, Ers π δ s → (f s).to (fun r s' => ∀ δ', Ers π δ' s' → Sm δ δ' → Φ r δ') (GX π G) → dt G e δ Φ := ⟨OkT.run⟩
instance [CA] {π : Pi} {G : Gx} {e : Expr} {f : Sx → Re Bool} : CoeFun (OkW π G e f) fun _ => ∀ δ s Φ, Ers π δ s → (f s).to (fun r s' => ∀ δ', Ers π δ' s' → Sm δ δ' → Φ r δ') (GX π G) → dw G e δ Φ := ⟨OkW.run⟩
instance [CA] {π : Pi} {G : Gx} {es : List Expr} {f : Sx → Re (List Ag)} : CoeFun (OkA π G es f) fun _ => ∀ δ s Φ, Ers π δ s → (f s).to (fun r s' => ∀ δ', Ers π δ' s' → Sm δ δ' → Φ r δ') (GX π G) → dgs G es δ Φ := ⟨OkA.run⟩
instance [CA] {π : Pi} {G : Gx} {tg e : Expr} {f : Sx → Re (List D)} : CoeFun (OkI π G tg e f) fun _ => ∀ δ s Φ, Ers π δ s → (f s).to (fun r s' => ∀ δ', Ers π δ' s' → Sm δ δ' → Φ r.length (fun i d => r[i]? = some d) δ') (GX π G) → di G tg e δ Φ := ⟨OkI.run⟩
instance [CA] {π : Pi} {G : Gx} {st : Stmt} {f : Sx → Rs} : CoeFun (OkS π G st f) fun _ => ∀ δ s E, Ers π δ s → (f s).to π G E → ds G st δ E := ⟨OkS.run⟩
instance [CA] {π : Pi} {G : Gx} {st : List Stmt} {f : Sx → Rs} : CoeFun (OkB π G st f) fun _ => ∀ δ s E, Ers π δ s → (f s).to π G E → dsb G st δ E := ⟨OkB.run⟩
instance [CA] {π : Pi} {G : Gx} {tg : Expr} {js : List Nat} {g : D → Sx → Option Sx} : CoeFun (OkG π G tg js g) fun _ => ∀ d δ s s' Φ, Ers π δ s → g d s = some s' → (∀ δ', Ers π δ' s' → Sm δ δ' → Φ δ') → dgt G tg d δ js Φ := ⟨OkG.run⟩
theorem Rs.to_mono [CA] {π : Pi} {G : Gx} {m : Rs} {E E' : DE} (h : m.to π G E) (h1 : ∀ δ, E.nx δ → E'.nx δ) (h2 : ∀ r δ, E.rt r δ → E'.rt r δ) (h3 : ∀ δ, E.bk δ → E'.bk δ) (h4 : ∀ δ, E.ct δ → E'.ct δ) : m.to π G E' := by
  cases m with
  | nx s => exact fun δ' a => h1 _ (h δ' a)
  | rt r s => exact fun r' δ' a b => h2 _ _ (h r' δ' a b)
  | bk s => exact fun δ' a => h3 _ (h δ' a)
  | ct s => exact fun δ' a => h4 _ (h δ' a)
  | ex x s => exact h
  | no => exact h
/-! ### operands -/
def fastC : Cell → Option D
  | .lst ds => some (.lst ds)
  | .dic ks ds => some (.dic ks ds)
  | .obj C ks ds => some (.obj C ks ds)
  | .ab _ => none
def fastS : Sl → Option D
  | .no => none
  | .x _ => none
  | .v d => some d
  | .o _ c => fastC c
theorem fastC_ok {c : Cell} {d : D} {p : Addr} (h : fastC c = some d) : Fast (.own p c) d := by
  cases c <;> simp [fastC] at h <;> subst h <;> constructor
theorem fastS_ok {π : Pi} {r : DV} {x : Sl} {d : D} (e : Er π r x) (h : fastS x = some d) : Fast r d := by
  cases e with
  | no => simp [fastS] at h
  | x => simp [fastS] at h
  | v => simp [fastS] at h; subst h; constructor
  | o => exact fastC_ok h
  | t => exact fastC_ok h
def look (s : Sx) : List Ag → Option (List D × Bool)
  | [] => some ([], false)
  | .v d :: r =>
    match look s r with
    | some (ds, b) => some (d :: ds, b)
    | none => none
  | .s i :: r =>
    match s[i]? with
    | some (.v d) =>
      match look s r with
      | some (ds, b) => some (d :: ds, b)
      | none => none
    | some (.o _ c) =>
      match fastC c with
      | some d =>
        match look s r with
        | some (ds, _) => some (d :: ds, true)
        | none => none
      | none => none
    | _ => none
theorem look_ok {π : Pi} {δ : En} {s : Sx} (h : Ers π δ s) : ∀ {as : List Ag} {ds : List D} {b : Bool}, look s as = some (ds, b) → ArgsD δ as ds b
  | [], ds, b, e => by simp [look] at e; obtain ⟨rfl, rfl⟩ := e; exact .nil
  | .v d :: r, ds, b, e => by
    unfold look at e
    cases e1 : look s r with
    | none => rw [e1] at e; cases e
    | some z => rw [e1] at e; cases e; exact .v (look_ok h e1)
  | .s i :: r, ds, b, e => by
    unfold look at e
    cases e0 : s[i]? with
    | none => rw [e0] at e; cases e
    | some y =>
      rw [e0] at e
      obtain ⟨x, hx, er⟩ := h.get e0
      cases y with
      | no => cases e
      | x _ => cases e
      | v d =>
        cases er.val
        dsimp only at e
        cases e1 : look s r with
        | none => rw [e1] at e; cases e
        | some z => rw [e1] at e; cases e; exact .sv hx (look_ok h e1)
      | o t c =>
        obtain ⟨p, rfl⟩ := er.own
        dsimp only at e
        cases e2 : fastC c with
        | none => rw [e2] at e; cases e
        | some d =>
          rw [e2] at e
          dsimp only at e
          cases e1 : look s r with
          | none => rw [e1] at e; cases e
          | some z => rw [e1] at e; cases e; exact .so hx (fastC_ok e2) (look_ok h e1)
def flatS : Sl → Bool
  | .no => false
  | .v d => flatD d
  | .o _ (.lst ds) => flatDs ds
  | _ => false
theorem flatS_ok {π : Pi} {r : DV} {x : Sl} (e : Er π r x) (h : flatS x = true) : Zd.flatV r = true := by
  cases e with
  | no => cases h
  | v => exact h
  | @o p c => cases c <;> first | exact h | cases h
  | @t c => cases c <;> first | exact h | cases h
  | x => cases h
def aN : Sx → Re (List Ag) := fun s => .ok [] s
def aE (e : Sx → Re Sl) (r : Sx → Re (List Ag)) : Sx → Re (List Ag) := fun s => (e s).bind fun x s1 =>
  match fastS x with
  | some d => (r s1).bind fun as s2 => .ok (.v d :: as) s2
  | none => .no
def aS (i : Nat) (r : Sx → Re (List Ag)) : Sx → Re (List Ag) := fun s =>
  match s[i]? with
  | some (.v d) => (r s).bind fun as s2 => .ok (.v d :: as) s2
  | some (.o _ _) => (r s).bind fun as s2 => .ok (.s i :: as) s2
  | _ => .no
section
variable [CA] {π : Pi} {G : Gx} {pos : Pos}
theorem okA_nil : OkA π G [] aN := .mk fun δ s Φ hs h => dgs_nil (h δ hs Sm.refl)
theorem okA_cons {e : Expr} {es : List Expr} {f : Sx → Re Sl} {g : Sx → Re (List Ag)} (he : OkE π G e f) (hr : OkA π G es g) : OkA π G (e :: es) (aE f g) := .mk fun δ s Φ hs h =>
  dgs_cons (he δ s _ hs (Re.to_mono (Re.to_bind h) (fun r s1 h1 r' δ' er ers sm => by
    cases e1 : fastS r with
    | none => rw [e1] at h1; exact h1.elim
    | some d =>
      rw [e1] at h1
      refine ⟨d, fastS_ok er e1, hr δ' s1 _ ers (Re.to_mono (Re.to_bind h1) (fun as s2 h2 δ2 e2 m2 => h2 δ2 e2 (sm.trans m2)) fun x s2 h2 => h2)⟩) fun x s1 h1 => h1))
theorem okA_slot {i : Nat} {x : Str} {es : List Expr} {g : Sx → Re (List Ag)} (hi : Nth G.X.N i x) (hr : OkA π G es g) (hv : Vis G.X.env.scope x := by first | exact .inl rfl | exact .inr (.inl rfl) | exact .inr (.inr rfl)) (hd : (x == ("__debug__" : Str)) = false := by decide) (hcd : (x == ("__classdict__" : Str)) = false := by decide) :
    OkA π G (.Name x pos :: es) (aS i g) := .mk fun δ s Φ hs h => by
  unfold aS at h
  cases e0 : s[i]? with
  | none => rw [e0] at h; exact h.elim
  | some y =>
    rw [e0] at h
    obtain ⟨z, hz, er⟩ := hs.get e0
    cases y with
    | no => exact h.elim
    | x _ => exact h.elim
    | v d =>
      cases er.val
      exact dgs_cons (de_val hi hz ⟨d, .val, hr δ s _ hs (Re.to_mono (Re.to_bind h) (fun as s2 h2 δ2 e2 m2 => h2 δ2 e2 m2) fun x s2 h2 => h2)⟩ hv hd hcd)
    | o t c =>
      obtain ⟨p, rfl⟩ := er.own
      exact dgs_slot hi hz (hr δ s _ hs (Re.to_mono (Re.to_bind h) (fun as s2 h2 δ2 e2 m2 => h2 δ2 e2 m2) fun x s2 h2 => h2)) hv hd hcd
/-! ### operations on the values of operands -/
abbrev Er0 (r' : DV) (r : Sl) : Prop := ∀ π, Er π r' r
def opF (p : List D → Option Sl) (a : Sx → Re (List Ag)) : Sx → Re Sl := fun s => (a s).bind fun as s1 =>
  match look s1 as with
  | none => .no
  | some (ds, b) =>
    match p ds with
    | none => .no
    | some r => if (b && !flatS r) = true then .no else .ok r s1
def tOpF (p : List D → Option Sl) (a : Sx → Re (List Ag)) : Sx → Re Bool := fun s => (a s).bind fun as s1 =>
  match look s1 as with
  | none => .no
  | some (ds, b) =>
    match p ds with
    | some (.v (.bl k)) => .ok k s1
    | _ => .no
def PrimOk (G : Gx) (R : List V → Hp → VK → Prop) (p : List D → Option Sl) : Prop := ∀ ds r, p ds = some r → DR G.X.K R ds fun r' => Er0 r' r
theorem dr_mono {K : PySem.W.Frag} {R : List V → Hp → VK → Prop} {ds : List D} {Ψ Ψ' : DV → Prop} (h : DR K R ds Ψ) (m : ∀ r, Ψ r → Ψ' r) : DR K R ds Ψ' := fun I H vs s rp Q q => h I H vs s rp Q fun r v I' H' a b => q r v I' H' (m r a) b
theorem asked_of {es : List Expr} {a : Sx → Re (List Ag)} {R : List V → Hp → VK → Prop} {p : List D → Option Sl} (ha : OkA π G es a) (hp : PrimOk G R p) {δ : En} {s : Sx} {Φ : DV → En → Prop} (hs : Ers π δ s)
    (h : (opF p a s).to (fun r s' => ∀ r' δ', Er π r' r → Ers π δ' s' → Sm δ δ' → Φ r' δ') (GX π G)) : dgs G es δ (Asked G R Φ) :=
  ha δ s _ hs (Re.to_mono (Re.to_bind h) (fun as s1 h1 δ1 e1 m1 => by
    cases e : look s1 as with
    | none => rw [e] at h1; exact h1.elim
    | some z =>
      obtain ⟨ds, b⟩ := z
      rw [e] at h1
      dsimp only at h1
      cases e2 : p ds with
      | none => rw [e2] at h1; exact h1.elim
      | some r =>
        rw [e2] at h1
        dsimp only at h1
        refine ⟨ds, b, look_ok e1 e, dr_mono (hp ds r e2) fun r' er => ?_⟩
        by_cases hb : (b && !flatS r) = true
        · rw [if_pos hb] at h1; exact h1.elim
        · rw [if_neg hb] at h1
          refine ⟨fun hbt => ?_, h1 r' δ1 (er π) e1 m1⟩
          refine flatS_ok (er π) ?_
          subst hbt
          simpa using hb) fun x s1 h1 => h1)
theorem asked_t {es : List Expr} {a : Sx → Re (List Ag)} {R : List V → Hp → VK → Prop} {p : List D → Option Sl} (ha : OkA π G es a) (hp : PrimOk G R p) {δ : En} {s : Sx} {Φ : Bool → En → Prop} (hs : Ers π δ s)
    (h : (tOpF p a s).to (fun r s' => ∀ δ', Ers π δ' s' → Sm δ δ' → Φ r δ') (GX π G)) : dgs G es δ (Asked G R fun r δ1 => ∃ k, r = .val (.bl k) ∧ Φ k δ1) :=
  ha δ s _ hs (Re.to_mono (Re.to_bind h) (fun as s1 h1 δ1 e1 m1 => by
    cases e : look s1 as with
    | none => rw [e] at h1; exact h1.elim
    | some z =>
      obtain ⟨ds, b⟩ := z
      rw [e] at h1
      dsimp only at h1
      cases e2 : p ds with
      | none => rw [e2] at h1; exact h1.elim
      | some r =>
        rw [e2] at h1
        have key : ∀ k, r = .v (.bl k) → Φ k δ1 := fun k hk => by
          subst hk
          exact h1 δ1 e1 m1
        have kk : ∃ k, r = .v (.bl k) := by
          cases r with
          | no => exact h1.elim
          | x _ => exact h1.elim
          | o t c => exact h1.elim
          | v d => cases d <;> first | exact h1.elim | exact ⟨_, rfl⟩
        obtain ⟨k, hk⟩ := kk
        subst hk
        refine ⟨ds, b, look_ok e1 e, dr_mono (hp ds _ e2) fun r' er => ?_⟩
        cases (er π).val
        exact ⟨fun _ => rfl, k, rfl, key k rfl⟩) fun x s1 h1 => h1)
/-! ### expressions -/
def cst (d : D) : Sx → Re Sl := fun s => .ok (.v d) s
theorem okE_int {i : Int} {j} : OkE π G (.Constant (.int i) j pos) (cst (.int i)) := .mk fun δ s Φ hs h => de_int (h _ _ .v hs Sm.refl)
theorem okE_bl {b : Bool} {j} : OkE π G (.Constant (.bool b) j pos) (cst (.bl b)) := .mk fun δ s Φ hs h => de_bl (h _ _ .v hs Sm.refl)
theorem okE_non {j} : OkE π G (.Constant .none j pos) (cst .non) := .mk fun δ s Φ hs h => de_non (h _ _ .v hs Sm.refl)
theorem okE_str {x : Str} {j} : OkE π G (.Constant (.str x) j pos) (cst (.str x)) := .mk fun δ s Φ hs h => de_str (h _ _ .v hs Sm.refl)
/-- a value of the top: k says what is known of it -/
structure Gv (G : Gx) (x : Str) (d : D) : Prop where
  ex : ∃ v u, G.X.mg x = some u ∧ RelV v u ∧ ∀ I, Rep G.X.K I d v
theorem okE_glob {x : Str} {d : D} (hm : Gv G x d) (hg : Gl G.X x := by rfl) (hd : (x == ("__debug__" : Str)) = false := by decide) : OkE π G (.Name x pos) (cst d) := .mk fun δ s Φ hs h => by
  obtain ⟨v, u, h1, h2, h3⟩ := hm.ex
  exact de_glob h1 h2 h3 (h _ _ .v hs Sm.refl) hg hd
theorem okE_bltn {x : Str} {T : String} (hm : G.X.mg x = none) (hv : bootBuiltins x = some (.type T) := by decide +kernel) (hg : Gl G.X x := by rfl) (hn : x ≠ "__name__" := by decide) (hdb : (x == ("__debug__" : Str)) = false := by decide) : OkE π G (.Name x pos) (cst (.raw (.ty T))) := .mk fun δ s Φ hs h =>
  de_bltn hm hv (h _ _ .v hs Sm.refl) hg hn hdb
/-- a name; what is its own goes out -/
def mv (i : Nat) : Sx → Re Sl := fun s =>
  match s[i]? with
  | some (.v d) => .ok (.v d) s
  | some (.o t c) => .ok (.o t c) (s.set i .no)
  | _ => .no
theorem okE_mv {i : Nat} {x : Str} (hi : Nth G.X.N i x) (hv : Vis G.X.env.scope x := by first | exact .inl rfl | exact .inr (.inl rfl) | exact .inr (.inr rfl)) (hd : (x == ("__debug__" : Str)) = false := by decide) (hcd : (x == ("__classdict__" : Str)) = false := by decide) : OkE π G (.Name x pos) (mv i) := .mk fun δ s Φ hs h => by
  unfold mv at h
  cases e0 : s[i]? with
  | none => rw [e0] at h; exact h.elim
  | some y =>
    rw [e0] at h
    obtain ⟨z, hz, er⟩ := hs.get e0
    cases y with
    | no => exact h.elim
    | x _ => exact h.elim
    | v d =>
      cases er.val
      exact de_val hi hz (h _ _ .v hs Sm.refl) hv hd hcd
    | o t c =>
      obtain ⟨p, rfl⟩ := er.own
      exact de_move hi hz (h _ _ er (hs.set i .no) (Sm.set fun q c e => by cases e)) hv hd hcd
/-- a name; what is its own is held fast -/
def fz (i : Nat) : Sx → Re Sl := fun s =>
  match s[i]? with
  | some (.v d) => .ok (.v d) s
  | some (.o t c) =>
    match fastC c with
    | some d => .ok (.v d) (s.set i (.v d))
    | none => .no
  | _ => .no
theorem okE_fz {i : Nat} {x : Str} (hi : Nth G.X.N i x) (hv : Vis G.X.env.scope x := by first | exact .inl rfl | exact .inr (.inl rfl) | exact .inr (.inr rfl)) (hd : (x == ("__debug__" : Str)) = false := by decide) (hcd : (x == ("__classdict__" : Str)) = false := by decide) : OkE π G (.Name x pos) (fz i) := .mk fun δ s Φ hs h => by
  unfold fz at h
  cases e0 : s[i]? with
  | none => rw [e0] at h; exact h.elim
  | some y =>
    rw [e0] at h
    obtain ⟨z, hz, er⟩ := hs.get e0
    cases y with
    | no => exact h.elim
    | x _ => exact h.elim
    | v d =>
      cases er.val
      exact de_val hi hz (h _ _ .v hs Sm.refl) hv hd hcd
    | o t c =>
      obtain ⟨p, rfl⟩ := er.own
      dsimp only at h
      cases e1 : fastC c with
      | none => rw [e1] at h; exact h.elim
      | some d =>
        rw [e1] at h
        exact de_frz hi hz (fastC_ok e1) (h _ _ .v (hs.set i .v) (Sm.set fun q c e => by cases e)) hv hd hcd
theorem okE_bin {op : Operator} {a b : Expr} {p : List D → Option Sl} {g : Sx → Re (List Ag)} (hp : PrimOk G (R2l (wop G.X (binaryOp op))) p) (ha : OkA π G [a, b] g) : OkE π G (.BinOp a op b pos) (opF p g) := .mk fun δ s Φ hs h => de_bin (asked_of ha hp hs h)
theorem okE_un {op : UnaryOp} {a : Expr} {p : List D → Option Sl} {g : Sx → Re (List Ag)} (hp : PrimOk G (R1l (wun G.X (unaryOp op))) p) (ha : OkA π G [a] g) : OkE π G (.UnaryOp op a pos) (opF p g) := .mk fun δ s Φ hs h => de_un (asked_of ha hp hs h)
theorem okE_cmp {op : CmpOp} {a b : Expr} {p : List D → Option Sl} {g : Sx → Re (List Ag)} (hp : PrimOk G (R2l (wop G.X (compareOp op))) p) (ha : OkA π G [a, b] g) (hm : behindInMarks op b = false := by rfl) : OkE π G (.Compare a [op] [b] pos) (opF p g) := .mk fun δ s Φ hs h => de_cmp (asked_of ha hp hs h) hm
theorem okT_cmp {op : CmpOp} {a b : Expr} {p : List D → Option Sl} {g : Sx → Re (List Ag)} (hp : PrimOk G (R2l (wop G.X (compareOp op))) p) (ha : OkA π G [a, b] g) (hm : behindInMarks op b = false := by rfl) : OkT π G (.Compare a [op] [b] pos) (tOpF p g) := .mk fun δ s Φ hs h => dt_cmp (asked_t ha hp hs h) hm
def pTup : List D → Option Sl := fun ds => if ds.length ≤ sizeLine then some (.v (.tup ds)) else none
def pLst : List D → Option Sl := fun ds => if ds.length ≤ sizeLine then some (.o 0 (.lst ds)) else none
theorem pTup_ok : PrimOk G Rtup pTup := fun ds r e => by
  unfold pTup at e
  by_cases h : ds.length ≤ sizeLine
  · rw [if_pos h] at e; cases e; exact dr_tup h fun _ => .v
  · rw [if_neg h] at e; cases e
theorem pLst_ok : PrimOk G Rlst pLst := fun ds r e => by
  unfold pLst at e
  by_cases h : ds.length ≤ sizeLine
  · rw [if_pos h] at e; cases e; exact dr_lst h fun _ _ => .o
  · rw [if_neg h] at e; cases e
theorem okE_tup {es : List Expr} {k} {g : Sx → Re (List Ag)} (ha : OkA π G es g) (hp : PA G.X es (wes G.X es) := by repeat (first | exact pa_nil | refine pa_cons PE.of ?_)) : OkE π G (.Tuple es k pos) (opF pTup g) := .mk fun δ s Φ hs h => de_tuple hp (asked_of ha pTup_ok hs h)
theorem okE_lst {es : List Expr} {g : Sx → Re (List Ag)} (ha : OkA π G es g) (hp : PA G.X es (wes G.X es) := by repeat (first | exact pa_nil | refine pa_cons PE.of ?_)) : OkE π G (.List es pos) (opF pLst g) := .mk fun δ s Φ hs h => de_list hp (asked_of ha pLst_ok hs h)
theorem okE_ix {a b : Expr} {p : List D → Option Sl} {g : Sx → Re (List Ag)} (hp : PrimOk G (R2l (wix G.X)) p) (ha : OkA π G [a, b] g) (hs' : PlainIx b := by exact fun _ _ => rfl) : OkE π G (.Subscript a b pos) (opF p g) := .mk fun δ s Φ hs h => de_ix (asked_of ha hp hs h) hs'
theorem okE_slTo {a hi : Expr} {p2 : Pos} {p : List D → Option Sl} {g : Sx → Re (List Ag)} (hp : PrimOk G (RslTo G.X) p) (ha : OkA π G [a, hi] g) : OkE π G (.Subscript a (.Slice none (some hi) none p2) pos) (opF p g) := .mk fun δ s Φ hs h => de_slTo (asked_of ha hp hs h)
theorem okE_slFr {a lo : Expr} {p2 : Pos} {p : List D → Option Sl} {g : Sx → Re (List Ag)} (hp : PrimOk G (RslFr G.X) p) (ha : OkA π G [a, lo] g) : OkE π G (.Subscript a (.Slice (some lo) none none p2) pos) (opF p g) := .mk fun δ s Φ hs h => de_slFr (asked_of ha hp hs h)
theorem okE_slAl {a : Expr} {p2 : Pos} {p : List D → Option Sl} {g : Sx → Re (List Ag)} (hp : PrimOk G (RslAl G.X) p) (ha : OkA π G [a] g) : OkE π G (.Subscript a (.Slice none none none p2) pos) (opF p g) := .mk fun δ s Φ hs h => de_slAl (asked_of ha hp hs h)
/-! tests -/
def tTru (t : D → Option Bool) (a : Sx → Re (List Ag)) : Sx → Re Bool := fun s => (a s).bind fun as s1 =>
  match look s1 as with
  | some ([d], _) =>
    match t d with
    | some k => .ok k s1
    | none => .no
  | _ => .no
def truD : D → Option Bool
  | .non => some false
  | .bl b => some b
  | .int i => some (i != 0)
  | .str s => if s.length ≤ sizeLine then some ((s.length : Int) != 0) else none
  | .lst ds => some (!ds.isEmpty)
  | .tup ds => some (!ds.isEmpty)
  | _ => none
theorem truD_ok {d : D} {k : Bool} (h : truD d = some k) : TruD d k := by
  cases d with
  | str s =>
    have h : (if s.length ≤ sizeLine then some ((s.length : Int) != 0) else none) = some k := h
    by_cases hl : s.length ≤ sizeLine
    · rw [if_pos hl] at h; cases h; exact .str hl
    · rw [if_neg hl] at h; cases h
  | non => cases h; constructor
  | bl b => cases h; constructor
  | int i => cases h; constructor
  | lst i => cases h; constructor
  | tup i => cases h; constructor
  | raw _ => cases h
  | klst _ => cases h
  | dic _ _ => cases h
  | obj _ _ _ => cases h
  | xex _ _ _ _ => cases h
theorem tTru_ok {a : List Ag → Prop} {es : List Expr} {g : Sx → Re (List Ag)} (ha : OkA π G es g) {δ : En} {s : Sx} {Φ : Bool → En → Prop} (hs : Ers π δ s)
    (h : (tTru truD g s).to (fun r s' => ∀ δ', Ers π δ' s' → Sm δ δ' → Φ r δ') (GX π G)) : dgs G es δ fun as δ1 => ∃ d k b, ArgsD δ1 as [d] b ∧ TruD d k ∧ Φ k δ1 :=
  ha δ s _ hs (Re.to_mono (Re.to_bind h) (fun as s1 h1 δ1 e1 m1 => by
    cases e : look s1 as with
    | none => rw [e] at h1; exact h1.elim
    | some z =>
      obtain ⟨ds, b⟩ := z
      rw [e] at h1
      match ds, e, h1 with
      | [], _, h1 => exact h1.elim
      | _ :: _ :: _, _, h1 => exact h1.elim
      | [d], e, h1 =>
        dsimp only at h1
        cases e2 : truD d with
        | none => rw [e2] at h1; exact h1.elim
        | some k =>
          rw [e2] at h1
          exact ⟨d, k, b, look_ok e1 e, truD_ok e2, h1 δ1 e1 m1⟩) fun x s1 h1 => h1)
theorem okT_tru {a : Expr} {g : Sx → Re (List Ag)} (ha : OkA π G [a] g) (he : ∀ whole, isTrue a G.X.env whole = (do let v ← whole; standAt a.pos; holding [v] (truthy v)) := by (intro _; rfl)) : OkT π G a (tTru truD g) := .mk fun δ s Φ hs h => dt_tru (tTru_ok (a := fun _ => True) ha hs h) he
def tNot (t : Sx → Re Bool) : Sx → Re Bool := fun s => (t s).bind fun k s1 => .ok (!k) s1
theorem okT_not {a : Expr} {t : Sx → Re Bool} (ha : OkT π G a t) : OkT π G (.UnaryOp .Not a pos) (tNot t) := .mk fun δ s Φ hs h => dt_not (ha δ s _ hs (Re.to_mono (Re.to_bind h) (fun k s1 h1 => h1) fun x s1 h1 => h1))
theorem okT_bool {op : BoolOp} {es : List Expr} {t : Sx → Re Bool} (ha : OkW π G (.BoolOp op es pos) t) : OkT π G (.BoolOp op es pos) t := .mk fun δ s Φ hs h => dt_bool (ha δ s _ hs h)
def wAnd (t r : Sx → Re Bool) : Sx → Re Bool := fun s => (t s).bind fun k s1 => if k = true then r s1 else .ok false s1
def wOr (t r : Sx → Re Bool) : Sx → Re Bool := fun s => (t s).bind fun k s1 => if k = true then .ok true s1 else r s1
theorem okW_and1 {a : Expr} {t : Sx → Re Bool} (ha : OkT π G a t) : OkW π G (.BoolOp .And [a] pos) t := .mk fun δ s Φ hs h => dw_and1 (ha δ s _ hs h)
theorem okW_or1 {a : Expr} {t : Sx → Re Bool} (ha : OkT π G a t) : OkW π G (.BoolOp .Or [a] pos) t := .mk fun δ s Φ hs h => dw_or1 (ha δ s _ hs h)
theorem okW_and {a b : Expr} {rest : List Expr} {t r : Sx → Re Bool} (ha : OkT π G a t) (hb : OkW π G (.BoolOp .And (b :: rest) pos) r) : OkW π G (.BoolOp .And (a :: b :: rest) pos) (wAnd t r) := .mk fun δ s Φ hs h =>
  dw_and (ha δ s _ hs (Re.to_mono (Re.to_bind h) (fun k s1 h1 δ1 e1 m1 => by
    cases k with
    | true => rw [if_pos rfl] at h1 ⊢; exact hb δ1 s1 _ e1 (Re.to_mono h1 (fun r s2 h2 δ2 e2 m2 => h2 δ2 e2 (m1.trans m2)) fun x s2 h2 => h2)
    | false => rw [if_neg Bool.false_ne_true] at h1 ⊢; exact h1 δ1 e1 m1) fun x s1 h1 => h1))
theorem okW_or {a b : Expr} {rest : List Expr} {t r : Sx → Re Bool} (ha : OkT π G a t) (hb : OkW π G (.BoolOp .Or (b :: rest) pos) r) : OkW π G (.BoolOp .Or (a :: b :: rest) pos) (wOr t r) := .mk fun δ s Φ hs h =>
  dw_or (ha δ s _ hs (Re.to_mono (Re.to_bind h) (fun k s1 h1 δ1 e1 m1 => by
    cases k with
    | true => rw [if_pos rfl] at h1 ⊢; exact h1 δ1 e1 m1
    | false => rw [if_neg Bool.false_ne_true] at h1 ⊢; exact hb δ1 s1 _ e1 (Re.to_mono h1 (fun r s2 h2 δ2 e2 m2 => h2 δ2 e2 (m1.trans m2)) fun x s2 h2 => h2)) fun x s1 h1 => h1))
/-- a value that is True or False, as a test -/
def tVal (e : Sx → Re Sl) : Sx → Re Bool := fun s => (e s).bind fun r s1 =>
  match r with
  | .v (.bl k) => .ok k s1
  | _ => .no
theorem dt_val {δ : En} {e : Expr} {Φ : Bool → En → Prop} (h : de G e δ fun r δ1 => ∃ k, r = .val (.bl k) ∧ Φ k δ1) (he' : ∀ whole, isTrue e G.X.env whole = (do let v ← whole; standAt e.pos; holding [v] (truthy v))) : dt G e δ Φ := fun σ I H x f Q q =>
  (pt_val PE.of he').to (h σ I H x f _ fun r δ1 v I1 H1 ⟨k, hr, a1⟩ y g => by
    subst hr
    obtain ⟨u, h1, h2⟩ := y.head_val
    cases h1
    cases (show _ = _ from h2)
    exact ⟨k, rfl, q k δ1 I1 H1 a1 y.tail (g.sub fun a h => own_cons_val.mpr h)⟩)
theorem okT_val {e : Expr} {f : Sx → Re Sl} (he : OkE π G e f) (he' : ∀ whole, isTrue e G.X.env whole = (do let v ← whole; standAt e.pos; holding [v] (truthy v)) := by (intro _; rfl)) : OkT π G e (tVal f) := .mk fun δ s Φ hs h =>
  dt_val (he δ s _ hs (Re.to_mono (Re.to_bind h) (fun r s1 h1 r' δ1 er e1 m1 => by
    cases r with
    | no => exact h1.elim
    | x _ => exact h1.elim
    | o t c => exact h1.elim
    | v d =>
      cases er.val
      cases d <;> first | exact h1.elim | exact ⟨_, rfl, h1 δ1 e1 m1⟩) fun x s1 h1 => h1)) he'
/-! values: and, or, not, if -/
def eNot (t : D → Option Bool) (a : Sx → Re (List Ag)) : Sx → Re Sl := fun s => (tTru t a s).bind fun k s1 => .ok (.v (.bl (!k))) s1
theorem okE_not {a : Expr} {g : Sx → Re (List Ag)} (ha : OkA π G [a] g) : OkE π G (.UnaryOp .Not a pos) (eNot truD g) := .mk fun δ s Φ hs h =>
  de_not (tTru_ok (Φ := fun k δ1 => Φ (.val (.bl (!k))) δ1) (a := fun _ => True) ha hs (Re.to_mono (Re.to_bind h) (fun k s1 h1 δ1 e1 m1 => h1 _ _ .v e1 m1) fun x s1 h1 => h1))
def eAnd (e r : Sx → Re Sl) : Sx → Re Sl := fun s => (e s).bind fun x s1 =>
  match x with
  | .v (.bl k) => if k = true then r s1 else .ok (.v (.bl false)) s1
  | _ => .no
def eOr (e r : Sx → Re Sl) : Sx → Re Sl := fun s => (e s).bind fun x s1 =>
  match x with
  | .v (.bl k) => if k = true then .ok (.v (.bl true)) s1 else r s1
  | _ => .no
theorem okE_one {op} {a : Expr} {f : Sx → Re Sl} (ha : OkE π G a f) : OkE π G (.BoolOp op [a] pos) f := .mk fun δ s Φ hs h => de_one (ha δ s _ hs h)
theorem okE_and {a b : Expr} {rest : List Expr} {f r : Sx → Re Sl} (ha : OkE π G a f) (hb : OkE π G (.BoolOp .And (b :: rest) pos) r) : OkE π G (.BoolOp .And (a :: b :: rest) pos) (eAnd f r) := .mk fun δ s Φ hs h =>
  de_and (ha δ s _ hs (Re.to_mono (Re.to_bind h) (fun x s1 h1 x' δ1 er e1 m1 => by
    cases x with
    | no => exact h1.elim
    | x _ => exact h1.elim
    | o t c => exact h1.elim
    | v d =>
      cases er.val
      cases d with
      | bl k =>
        refine ⟨k, rfl, ?_⟩
        dsimp only at h1
        cases k with
        | true => rw [if_pos rfl] at h1 ⊢; exact hb δ1 s1 _ e1 (Re.to_mono h1 (fun r s2 h2 r' δ2 er2 e2 m2 => h2 r' δ2 er2 e2 (m1.trans m2)) fun x s2 h2 => h2)
        | false => rw [if_neg Bool.false_ne_true] at h1 ⊢; exact h1 _ _ .v e1 m1
      | _ => exact h1.elim) fun x s1 h1 => h1))
theorem okE_or {a b : Expr} {rest : List Expr} {f r : Sx → Re Sl} (ha : OkE π G a f) (hb : OkE π G (.BoolOp .Or (b :: rest) pos) r) : OkE π G (.BoolOp .Or (a :: b :: rest) pos) (eOr f r) := .mk fun δ s Φ hs h =>
  de_or (ha δ s _ hs (Re.to_mono (Re.to_bind h) (fun x s1 h1 x' δ1 er e1 m1 => by
    cases x with
    | no => exact h1.elim
    | x _ => exact h1.elim
    | o t c => exact h1.elim
    | v d =>
      cases er.val
      cases d with
      | bl k =>
        refine ⟨k, rfl, ?_⟩
        dsimp only at h1
        cases k with
        | false => rw [if_neg Bool.false_ne_true] at h1 ⊢; exact hb δ1 s1 _ e1 (Re.to_mono h1 (fun r s2 h2 r' δ2 er2 e2 m2 => h2 r' δ2 er2 e2 (m1.trans m2)) fun x s2 h2 => h2)
        | true => rw [if_pos rfl] at h1 ⊢; exact h1 _ _ .v e1 m1
      | _ => exact h1.elim) fun x s1 h1 => h1))
def eIf (t : Sx → Re Bool) (a b : Sx → Re Sl) : Sx → Re Sl := fun s => (t s).bind fun k s1 => if k = true then a s1 else b s1
theorem okE_if {c a b : Expr} {t : Sx → Re Bool} {f g : Sx → Re Sl} (hc : OkT π G c t) (ha : OkE π G a f) (hb : OkE π G b g) : OkE π G (.IfExp c a b pos) (eIf t f g) := .mk fun δ s Φ hs h =>
  de_ifexp (hc δ s _ hs (Re.to_mono (Re.to_bind h) (fun k s1 h1 δ1 e1 m1 => by
    cases k with
    | true => rw [if_pos rfl] at h1 ⊢; exact ha δ1 s1 _ e1 (Re.to_mono h1 (fun r s2 h2 r' δ2 er2 e2 m2 => h2 r' δ2 er2 e2 (m1.trans m2)) fun x s2 h2 => h2)
    | false => rw [if_neg Bool.false_ne_true] at h1 ⊢; exact hb δ1 s1 _ e1 (Re.to_mono h1 (fun r s2 h2 r' δ2 er2 e2 m2 => h2 r' δ2 er2 e2 (m1.trans m2)) fun x s2 h2 => h2)) fun x s1 h1 => h1))
end
end Zf
namespace Zf
open PySem PySem.Spec L2 Zd
open PyProof.Rows (envOfC)
section
variable [CA] {π : Pi} {G : Gx} {pos : Pos}
/-! ### blocks -/
def blk : List (Sx → Rs) → Sx → Rs
  | [], s => .nx s
  | f :: r, s =>
    match f s with
    | .nx s1 => blk r s1
    | .rt r s => .rt r s
    | .bk s => .bk s
    | .ct s => .ct s
    | .ex x s => .ex x s
    | .no => .no
theorem okB_nil : OkB π G [] (blk []) := .mk fun δ s E hs h => dsb_nil (h δ hs)
theorem okB_cons {st : Stmt} {rest : List Stmt} {f : Sx → Rs} {r : List (Sx → Rs)} (hf : OkS π G st f) (hr : OkB π G rest (blk r)) : OkB π G (st :: rest) (blk (f :: r)) := .mk fun δ s E hs h =>
  dsb_cons (hf δ s _ hs (by
    unfold blk at h
    cases e : f s with
    | nx s1 => rw [e] at h; exact fun δ' a => hr δ' s1 E a h
    | rt r s1 => rw [e] at h; exact h
    | bk s1 => rw [e] at h; exact h
    | ct s1 => rw [e] at h; exact h
    | ex x s1 => rw [e] at h; exact h
    | no => rw [e] at h; exact h))
/-! ### statements -/
def pasF : Sx → Rs := fun s => .nx s
def brkF : Sx → Rs := fun s => .bk s
def cntF : Sx → Rs := fun s => .ct s
theorem okS_pass : OkS π G (.Pass pos) pasF := .mk fun δ s E hs h => ds_pass (h δ hs)
theorem okS_break : OkS π G (.Break pos) brkF := .mk fun δ s E hs h => ds_break (h δ hs)
theorem okS_continue : OkS π G (.Continue pos) cntF := .mk fun δ s E hs h => ds_continue (h δ hs)
def Re.st {α : Type} (m : Re α) (k : α → Sx → Rs) : Rs :=
  match m with
  | .ok a s => k a s
  | .ex x s => .ex x s
  | .no => .no
theorem Re.st_to {α : Type} {m : Re α} {k : α → Sx → Rs} {E : DE} (h : (m.st k).to π G E) : m.to (fun a s => (k a s).to π G E) (GX π G) := by
  cases m <;> exact h
def exF (e : Sx → Re Sl) : Sx → Rs := fun s => (e s).st fun _ s1 => .nx s1
def retF (e : Sx → Re Sl) : Sx → Rs := fun s => (e s).st fun r s1 => .rt r s1
def retN : Sx → Rs := fun s => .rt (.v .non) s
def asgF (i : Nat) (e : Sx → Re Sl) : Sx → Rs := fun s => (e s).st fun r s1 => .nx (s1.set i r)
def ifF (t : Sx → Re Bool) (a b : Sx → Rs) : Sx → Rs := fun s => (t s).st fun k s1 => if k = true then a s1 else b s1
theorem okS_expr {e : Expr} {f : Sx → Re Sl} (he : OkE π G e f) (hs' : swapsWith e none pos.line G.X.env = pure false := by rfl) : OkS π G (.Expr e pos) (exF f) := .mk fun δ s E hs h =>
  ds_expr (he δ s _ hs (Re.to_mono (Re.st_to h) (fun r s1 h1 r' δ1 er e1 m1 => h1 δ1 e1) fun x s1 h1 => h1)) hs'
theorem okS_ret {e : Expr} {f : Sx → Re Sl} (he : OkE π G e f) : OkS π G (.Return (some e) pos) (retF f) := .mk fun δ s E hs h =>
  ds_ret (he δ s _ hs (Re.to_mono (Re.st_to h) (fun r s1 h1 r' δ1 er e1 m1 => h1 r' δ1 er e1) fun x s1 h1 => h1))
theorem okS_retN : OkS π G (.Return none pos) retN := .mk fun δ s E hs h => ds_retN (h _ δ .v hs)
theorem okS_asg {i : Nat} {x : Str} {e : Expr} {pos' : Pos} {f : Sx → Re Sl} (hi : Nth G.X.N i x) (hN : G.X.N.Nodup) (he : OkE π G e f) (hx : Loc G.X.env.scope x := by first | exact .inl rfl | exact .inr rfl)
    (hs' : swapsWith e (some (.Name x pos')) pos.line G.X.env = pure false := by rfl) (hf : G.X.fn x = true ∨ G.X.env.scope.names.lookup x = some .local := by first | exact .inl rfl | exact .inr rfl) : OkS π G (.Assign [.Name x pos'] e pos) (asgF i f) := .mk fun δ s E hs h =>
  ds_asg hi (he δ s _ hs (Re.to_mono (Re.st_to h) (fun r s1 h1 r' δ1 er e1 m1 => h1 _ (e1.set i er)) fun x s1 h1 => h1)) hN hx hs' hf
theorem okS_if {c : Expr} {a b : List Stmt} {t : Sx → Re Bool} {f g : Sx → Rs} (hc : OkT π G c t) (ha : OkB π G a f) (hb : OkB π G b g) : OkS π G (.If c a b pos) (ifF t f g) := .mk fun δ s E hs h =>
  ds_if (hc δ s _ hs (Re.to_mono (Re.st_to h) (fun k s1 h1 δ1 e1 m1 => by
    cases k with
    | true => rw [if_pos rfl] at h1 ⊢; exact ha δ1 s1 E e1 h1
    | false => rw [if_neg Bool.false_ne_true] at h1 ⊢; exact hb δ1 s1 E e1 h1) fun x s1 h1 => h1))
/-- x += e -/
def augF (i : Nat) (p : List D → Option Sl) (e : Sx → Re Sl) : Sx → Rs := fun s =>
  match s[i]? with
  | some (.v d) => (e s).st fun r s1 =>
    match fastS r with
    | some y =>
      match p [d, y] with
      | some .no => .no
      | some (.x _) => .no
      | some r => .nx (s1.set i r)
      | none => .no
    | none => .no
  | _ => .no
theorem okS_aug {i : Nat} {x : Str} {e : Expr} {op : Operator} {pos' : Pos} {p : List D → Option Sl} {f : Sx → Re Sl} (hi : Nth G.X.N i x) (hN : G.X.N.Nodup) (hp : PrimOk G (R2l (wop G.X (inplaceOp op))) p) (he : OkE π G e f)
    (hx : Loc G.X.env.scope x := by first | exact .inl rfl | exact .inr rfl) (hf : G.X.fn x = true ∨ G.X.env.scope.names.lookup x = some .local := by first | exact .inl rfl | exact .inr rfl) : OkS π G (.AugAssign (.Name x pos') op e pos) (augF i p f) := .mk fun δ s E hs h => by
  unfold augF at h
  cases e0 : s[i]? with
  | none => rw [e0] at h; exact h.elim
  | some y =>
    rw [e0] at h
    obtain ⟨z, hz, er⟩ := hs.get e0
    cases y with
    | no => exact h.elim
    | x _ => exact h.elim
    | o t c => exact h.elim
    | v d =>
      cases er.val
      refine ds_aug hi hz (he δ s _ hs (Re.to_mono (Re.st_to h) (fun r s1 h1 r' δ1 er e1 m1 => ?_) fun x s1 h1 => h1)) hN hx hf
      cases e2 : fastS r with
      | none => rw [e2] at h1; exact h1.elim
      | some y =>
        rw [e2] at h1
        dsimp only at h1
        refine ⟨y, fastS_ok er e2, ?_⟩
        cases e3 : p [d, y] with
        | none => rw [e3] at h1; exact h1.elim
        | some q =>
          rw [e3] at h1
          refine dr_mono (hp _ _ e3) fun q' eq => ?_
          cases q with
          | no => exact h1.elim
          | x _ => exact h1.elim
          | v d' => cases (eq π).val; exact ⟨by simp, h1 _ (e1.set i .v)⟩
          | o t c => obtain ⟨p', hp'⟩ := (eq π).own; subst hp'; exact ⟨by simp, h1 _ (e1.set i (eq π))⟩
/-- x[i] = e -/
def stF (i : Nat) (e : Sx → Re Sl) (ix : Sx → Re (List Ag)) : Sx → Rs := fun s =>
  match s[i]? with
  | some (.o _ _) => (e s).st fun r s1 =>
    match fastS r, s1[i]? with
    | some d, some (.o _ _) => (ix s1).st fun as s2 =>
      match as, s2[i]? with
      | [.v (.int k)], some (.o t (.lst ds)) =>
        match ixN ds.length k with
        | some m => .nx (s2.set i (.o t (.lst (ds.set m d))))
        | none => .no
      | _, _ => .no
    | _, _ => .no
  | _ => .no
theorem okS_st {i : Nat} {y : Str} {py ps' : Pos} {e ix : Expr} {f : Sx → Re Sl} {g : Sx → Re (List Ag)} (hi : Nth G.X.N i y) (he : OkE π G e f) (hg : OkA π G [ix] g) (hv : Vis G.X.env.scope y := by first | exact .inl rfl | exact .inr (.inl rfl) | exact .inr (.inr rfl))
    (hs' : swapsWithSole [.Subscript (.Name y py) ix ps'] e pos.line G.X.env = pure false := by rfl) (hw : swappedStores [.Subscript (.Name y py) ix ps'] e G.X.env = pure none := by rfl)
    (h1' : (assignEach [.Subscript (.Name y py) ix ps'] G.X.env).map (·.2) = [assign (.Subscript (.Name y py) ix ps') G.X.env] := by rfl)
    (hsub : ∀ v, assign (.Subscript (.Name y py) ix ps') G.X.env v = (do
      let ov ← holding [v] (eval (.Name y py) G.X.env)
      let iv ← holding [v, ov] (eval ix G.X.env)
      standAt ps'
      holding [v, ov, iv] (setItem ov iv v)
      release [v, ov, iv] []) := by (intro _; rfl))
    (hd : (y == ("__debug__" : Str)) = false := by decide) (hcd : (y == ("__classdict__" : Str)) = false := by decide) : OkS π G (.Assign [.Subscript (.Name y py) ix ps'] e pos) (stF i f g) := .mk fun δ s E hs h => by
  unfold stF at h
  cases e0 : s[i]? with
  | none => rw [e0] at h; exact h.elim
  | some y =>
    rw [e0] at h
    obtain ⟨z, hz, er⟩ := hs.get e0
    cases y with
    | no => exact h.elim
    | x _ => exact h.elim
    | v d => exact h.elim
    | o t c =>
      obtain ⟨q, hq⟩ := er.own
      subst hq
      refine ds_setL hi hz (he δ s _ hs (Re.to_mono (Re.st_to h) (fun r s1 h1 r' δ1 er1 e1 m1 => ?_) fun x s1 h1 => h1)) hv hs' hw h1' hsub hd hcd
      cases e2 : fastS r with
      | none => rw [e2] at h1; exact h1.elim
      | some d =>
        rw [e2] at h1
        cases e3 : s1[i]? with
        | none => rw [e3] at h1; exact h1.elim
        | some y1 =>
          rw [e3] at h1
          obtain ⟨z1, hz1, er2⟩ := e1.get e3
          cases y1 with
          | no => exact h1.elim
          | x _ => exact h1.elim
          | v d => exact h1.elim
          | o t1 c1 =>
            obtain ⟨q1, hq1⟩ := er2.own
            subst hq1
            obtain ⟨c0, hc0⟩ := m1 _ _ _ hz1
            rw [hz] at hc0
            cases hc0
            refine ⟨d, fastS_ok er1 e2, ⟨c1, hz1⟩, hg δ1 s1 _ e1 (Re.to_mono (Re.st_to h1) (fun as s2 h2 δ2 e4 m2 => ?_) fun x s2 h2 => h2)⟩
            split at h2
            · rename_i k t2 ds e5
              obtain ⟨z2, hz2, er3⟩ := e4.get e5
              obtain ⟨q2, hq2⟩ := er3.own
              subst hq2
              obtain ⟨c3, hc3⟩ := m2 _ _ _ hz2
              rw [hz1] at hc3
              cases hc3
              split at h2
              · rename_i m hm
                exact ⟨k, ds, m, rfl, hz2, hm, h2 _ (e4.set i er3.cell)⟩
              · exact h2.elim
            · exact h2.elim
/-- x.append(e) -/
def appF (i : Nat) (a : Sx → Re (List Ag)) : Sx → Re Sl := fun s =>
  match s[i]? with
  | some (.o _ (.lst _)) => (a s).bind fun as s1 =>
    match as, s1[i]? with
    | [.v d], some (.o t (.lst ds)) => if ds.length < sizeLine then .ok (.v .non) (s1.set i (.o t (.lst (ds ++ [d])))) else .no
    | _, _ => .no
  | _ => .no
theorem okE_app {i : Nat} {y : Str} {py apos : Pos} {e : Expr} {g : Sx → Re (List Ag)} (hi : Nth G.X.N i y) (hg : OkA π G [e] g) (hv : Vis G.X.env.scope y := by first | exact .inl rfl | exact .inr (.inl rfl) | exact .inr (.inr rfl))
    (hd : (y == ("__debug__" : Str)) = false := by decide) (hcd : (y == ("__classdict__" : Str)) = false := by decide)
    (hbase : attributeBase (.Name y py) "append" G.X.env (eval (.Name y py) G.X.env) = eval (.Name y py) G.X.env := by rfl)
    (hfew : ((backTo pos (starEach [e] G.X.env)).all (fun x => !x.1) && (backToKw pos (keywordEach [] G.X.env)).all (fun x => x.1.isSome) && decide ([e].length + ([] : List Keyword).length + (if ([] : List Keyword).isEmpty then 0 else 1) < 30)) = true := by rfl)
    (hline : (apos.endLine == pos.line) = true := by rfl) (hs' : starEach [e] G.X.env = (false, eval e G.X.env) :: starEach [] G.X.env := by rfl) (hplain : (backTo pos (starEach [] G.X.env)).any (·.1) = false := by rfl) :
    OkE π G (.Call (.Attribute (.Name y py) "append" apos) [e] [] pos) (appF i g) := .mk fun δ s Φ hs h => by
  unfold appF at h
  split at h
  · rename_i t0 ds0 e0
    obtain ⟨z, hz, er⟩ := hs.get e0
    obtain ⟨q, hq⟩ := er.own
    subst hq
    refine de_append hi hz (hg δ s _ hs (Re.to_mono (Re.to_bind h) (fun as s1 h1 δ1 e1 m1 => ?_) fun x s1 h1 => h1)) ⟨_, rfl⟩ hv hd hcd hbase hfew hline hs' hplain
    split at h1
    · rename_i d t ds e2
      obtain ⟨z1, hz1, er1⟩ := e1.get e2
      obtain ⟨q1, hq1⟩ := er1.own
      subst hq1
      obtain ⟨c0, hc0⟩ := m1 _ _ _ hz1
      rw [hz] at hc0
      cases hc0
      by_cases hl : ds.length < sizeLine
      · rw [if_pos hl] at h1
        refine ⟨d, ds, rfl, hz1, hl, h1 _ _ .v (e1.set i er1.cell) (m1.trans (Sm.set fun q c e => ?_))⟩
        cases e
        exact ⟨_, hz1⟩
      · rw [if_neg hl] at h1; exact h1.elim
    · exact h1.elim
  · exact h.elim
/-! ### calls -/
inductive Rc where
  | ok (r : Sl)
  | ex (x : Xn)
  | no
inductive RcM where
  | ok (r : Sl) (c : Cell)
  | ex (x : Xn) (c : Cell)
  | no
def specP [CA] (F : List D → Rc) : PSp := fun ds Ψ Ξ =>
  match F ds with
  | .ok r => ∀ r', Er0 r' r → Ψ r'
  | .ex x => Ξ (xo x)
  | .no => False
def specM [CA] (F : Cell → List D → RcM) : MSp := fun c ds Ψ Ξ =>
  match F c ds with
  | .ok r c' => ∀ r', Er0 r' r → Ψ r' c'
  | .ex x c' => Ξ (xo x) c'
  | .no => False
def callP (n : Nat) (F : List D → Rc) (a : Sx → Re (List Ag)) : Sx → Re Sl := fun s => (a s).bind fun as s1 =>
  match look s1 as with
  | none => .no
  | some (ds, b) =>
    if ds.length = n then
      match F ds with
      | .ok r => if (b && !flatS r) = true then .no else .ok r s1
      | .ex x => if (b && !flatDs x.ds) = true then .no else .ex x s1
      | .no => .no
    else .no
theorem callP_ok {n : Nat} {F : List D → Rc} {es : List Expr} {a : Sx → Re (List Ag)} (ha : OkA π G es a) {δ : En} {s : Sx} {Φ : DV → En → Prop} (hs : Ers π δ s)
    (h : (callP n F a s).to (fun r s' => ∀ r' δ', Er π r' r → Ers π δ' s' → Sm δ δ' → Φ r' δ') (GX π G)) :
    dgs G es δ fun as δ1 => ∃ ds b, ArgsD δ1 as ds b ∧ ds.length = n ∧ specP F ds (fun r => (b = true → Zd.flatV r = true) ∧ Φ r δ1) (fun x => (b = true → flatX x = true) ∧ G.Ξ x δ1) :=
  ha δ s _ hs (Re.to_mono (Re.to_bind h) (fun as s1 h1 δ1 e1 m1 => by
    cases e : look s1 as with
    | none => rw [e] at h1; exact h1.elim
    | some z =>
      obtain ⟨ds, b⟩ := z
      rw [e] at h1
      dsimp only at h1
      by_cases hn : ds.length = n
      · rw [if_pos hn] at h1
        refine ⟨ds, b, look_ok e1 e, hn, ?_⟩
        unfold specP
        cases e2 : F ds with
        | no => rw [e2] at h1; exact h1.elim
        | ok r =>
          rw [e2] at h1
          dsimp only at h1 ⊢
          by_cases hb : (b && !flatS r) = true
          · rw [if_pos hb] at h1; exact h1.elim
          · rw [if_neg hb] at h1
            intro r' er
            refine ⟨fun hbt => ?_, h1 r' δ1 (er π) e1 m1⟩
            refine flatS_ok (er π) ?_
            subst hbt
            simpa using hb
        | ex x =>
          rw [e2] at h1
          dsimp only at h1 ⊢
          by_cases hb : (b && !flatDs x.ds) = true
          · rw [if_pos hb] at h1; exact h1.elim
          · rw [if_neg hb] at h1
            refine ⟨fun hbt => ?_, h1 δ1 e1⟩
            subst hbt
            show flatDs x.ds = true
            simpa using hb
      · rw [if_neg hn] at h1; exact h1.elim) fun x s1 h1 => h1)
def allV : List Ag → Option (List D)
  | [] => some []
  | .v d :: r =>
    match allV r with
    | some ds => some (d :: ds)
    | none => none
  | .s _ :: _ => none
theorem allV_ok : ∀ {as : List Ag} {ds : List D}, allV as = some ds → AllV as ds
  | [], _, e => by cases e; exact .nil
  | .v d :: r, ds, e => by
    unfold allV at e
    cases e1 : allV r with
    | none => rw [e1] at e; cases e
    | some z => rw [e1] at e; cases e; exact .v (allV_ok e1)
  | .s _ :: _, _, e => by cases e
def callM (n : Nat) (F : Cell → List D → RcM) (i : Nat) (a : Sx → Re (List Ag)) : Sx → Re Sl := fun s =>
  match s[i]? with
  | some (.o _ _) => (a s).bind fun as s1 =>
    match allV as, s1[i]? with
    | some ds, some (.o t c) =>
      if ds.length + 1 = n then
        match F c ds with
        | .ok .no _ => .no
        | .ok (.x _) _ => .no
        | .ok r c' => .ok r (s1.set i (.o t c'))
        | .ex x c' => .ex x (s1.set i (.o t c'))
        | .no => .no
      else .no
    | _, _ => .no
  | _ => .no
theorem callM_ok {n i : Nat} {F : Cell → List D → RcM} {es : List Expr} {a : Sx → Re (List Ag)} (ha : OkA π G es a) {δ : En} {s : Sx} {Φ : DV → En → Prop} (hs : Ers π δ s)
    (h : (callM n F i a s).to (fun r s' => ∀ r' δ', Er π r' r → Ers π δ' s' → Sm δ δ' → Φ r' δ') (GX π G)) :
    ∃ q c0, δ[i]? = some (.own q c0) ∧ dgs G es δ fun as δ1 => ∃ c ds, δ1[i]? = some (.own q c) ∧ AllV as ds ∧ ds.length + 1 = n ∧ specM F c ds (fun r c' => okR r (Put δ1 i (.own q c') (Φ r))) (fun x c' => Put δ1 i (.own q c') (G.Ξ x)) := by
  unfold callM at h
  cases e0 : s[i]? with
  | none => rw [e0] at h; exact h.elim
  | some y =>
    rw [e0] at h
    obtain ⟨z, hz, er⟩ := hs.get e0
    cases y with
    | no => exact h.elim
    | x _ => exact h.elim
    | v d => exact h.elim
    | o t0 c0 =>
      obtain ⟨q, hq⟩ := er.own
      subst hq
      refine ⟨q, c0, hz, ha δ s _ hs (Re.to_mono (Re.to_bind h) (fun as s1 h1 δ1 e1 m1 => ?_) fun x s1 h1 => h1)⟩
      split at h1
      · rename_i ds t c e2 e3
        obtain ⟨z1, hz1, er1⟩ := e1.get e3
        obtain ⟨q1, hq1⟩ := er1.own
        subst hq1
        obtain ⟨c2, hc2⟩ := m1 _ _ _ hz1
        rw [hz] at hc2
        cases hc2
        by_cases hn : ds.length + 1 = n
        · rw [if_pos hn] at h1
          refine ⟨c, ds, hz1, allV_ok e2, hn, ?_⟩
          unfold specM
          have sm : ∀ c', Sm δ (δ1.set i (.own q c')) := fun c' => m1.trans (Sm.set fun q c e => by cases e; exact ⟨_, hz1⟩)
          cases e4 : F c ds with
          | no => rw [e4] at h1; exact h1.elim
          | ex x c' => rw [e4] at h1; exact h1 _ (e1.set i er1.cell)
          | ok r c' =>
            rw [e4] at h1
            intro r' er'
            cases r with
            | no => exact h1.elim
            | x _ => exact h1.elim
            | v d =>
              cases (er' π).val
              exact h1 _ _ .v (e1.set i er1.cell) (sm c')
            | o t' c'' =>
              obtain ⟨p', hp'⟩ := (er' π).own
              subst hp'
              exact h1 _ _ (er' π) (e1.set i er1.cell) (sm c')
        · rw [if_neg hn] at h1; exact h1.elim
      · exact h1.elim
theorem okE_callP {k j n : Nat} {x : Str} {p : Pos} {F : List D → Rc} {e : Expr} {es : List Expr} {a : Sx → Re (List Ag)} (C : CalP G.X.prog G.X.w G.X.K G.X.mg G.X.base j x n (specP F)) (hr : Room k G.X.A) (hj : j ≤ k) (tk : L2N.Takes G.X G.W) (ha : OkA π G (e :: es) a) (hg : Gl G.X x := by rfl)
    (hp : PA G.X (e :: es) (wes G.X (e :: es)) := by repeat (first | exact pa_nil | refine pa_cons PE.of ?_)) (hdb : (x == ("__debug__" : Str)) = false := by decide) (he : starEach (e :: es) G.X.env = (false, eval e G.X.env) :: starEach es G.X.env := by rfl) (hpl : (backTo pos (starEach es G.X.env)).any (·.1) = false := by rfl) :
    OkE π G (.Call (.Name x p) (e :: es) [] pos) (callP n F a) := .mk fun δ s Φ hs h => de_calP C hr hj tk (callP_ok ha hs h) hg hp hdb he hpl
theorem okE_callM {k j n i : Nat} {x y : Str} {p py : Pos} {F : Cell → List D → RcM} {es : List Expr} {a : Sx → Re (List Ag)} (C : CalM G.X.prog G.X.w G.X.K G.X.mg G.X.base j x n (specM F)) (hr : Room k G.X.A) (hj : j ≤ k) (tk : L2N.Takes G.X G.W) (hi : Nth G.X.N i y) (ha : OkA π G es a) (hg : Gl G.X x := by rfl)
    (hv : Vis G.X.env.scope y := by first | exact .inl rfl | exact .inr (.inl rfl) | exact .inr (.inr rfl)) (hp : PA G.X (.Name y py :: es) (wes G.X (.Name y py :: es)) := by repeat (first | exact pa_nil | refine pa_cons PE.of ?_)) (hd : (y == ("__debug__" : Str)) = false := by decide) (hcd : (y == ("__classdict__" : Str)) = false := by decide)
    (hdb : (x == ("__debug__" : Str)) = false := by decide) (he : starEach (.Name y py :: es) G.X.env = (false, eval (.Name y py) G.X.env) :: starEach es G.X.env := by rfl) (hpl : (backTo pos (starEach es G.X.env)).any (·.1) = false := by rfl) :
    OkE π G (.Call (.Name x p) (.Name y py :: es) [] pos) (callM n F i a) := .mk fun δ s Φ hs h => by
  obtain ⟨q, c0, hz, hh⟩ := callM_ok ha hs h
  exact de_calM C hr hj tk hi hz hh hg hv hp hd hcd hdb he hpl
theorem okE_callB {x : Str} {id : String} {p : Pos} {e : Expr} {es : List Expr} {pr : List D → Option Sl} {a : Sx → Re (List Ag)} (hm : G.X.mg x = none) (hp : PrimOk G (wcall G.X (.builtin id)) pr) (ha : OkA π G (e :: es) a) (hv : bootBuiltins x = some (.builtin id) := by decide +kernel) (hg : Gl G.X x := by rfl)
    (hpa : PA G.X (e :: es) (wes G.X (e :: es)) := by repeat (first | exact pa_nil | refine pa_cons PE.of ?_)) (hn : x ≠ "__name__" := by decide) (hdb : (x == ("__debug__" : Str)) = false := by decide)
    (he : starEach (e :: es) G.X.env = (false, eval e G.X.env) :: starEach es G.X.env := by rfl) (hpl : (backTo pos (starEach es G.X.env)).any (·.1) = false := by rfl) : OkE π G (.Call (.Name x p) (e :: es) [] pos) (opF pr a) := .mk fun δ s Φ hs h =>
  de_callB hm hv (asked_of ha hp hs h) hg hpa hn hdb he hpl
theorem okE_callT {x : Str} {T : String} {p : Pos} {e : Expr} {es : List Expr} {pr : List D → Option Sl} {a : Sx → Re (List Ag)} (hm : G.X.mg x = none) (hp : PrimOk G (wcall G.X (.type T)) pr) (ha : OkA π G (e :: es) a) (hv : bootBuiltins x = some (.type T) := by decide +kernel) (hg : Gl G.X x := by rfl)
    (hpa : PA G.X (e :: es) (wes G.X (e :: es)) := by repeat (first | exact pa_nil | refine pa_cons PE.of ?_)) (hn : x ≠ "__name__" := by decide) (hdb : (x == ("__debug__" : Str)) = false := by decide)
    (he : starEach (e :: es) G.X.env = (false, eval e G.X.env) :: starEach es G.X.env := by rfl) (hpl : (backTo pos (starEach es G.X.env)).any (·.1) = false := by rfl) : OkE π G (.Call (.Name x p) (e :: es) [] pos) (opF pr a) := .mk fun δ s Φ hs h =>
  de_callTy hm hv (asked_of ha hp hs h) hg hpa hn hdb he hpl
/-! ### what is gone over -/
theorem di_mono {tg e : Expr} {δ : En} {Φ : Nat → (Nat → D → Prop) → En → Prop} (h : di G tg e δ fun n it δ' => ∃ ds : List D, ds.length = n ∧ (∀ i d, i < n → it i d → ds[i]? = some d) ∧ Φ ds.length (fun i d => ds[i]? = some d) δ') : di G tg e δ Φ := fun σ I H x f R q =>
  h σ I H x f R fun n it δ' J I' H' ⟨ds, hl, hit, hΦ⟩ y g yl => by
    subst hl
    refine q _ _ δ' J I' H' hΦ y g fun i I2 H2 l1 l2 => ⟨fun hi => ?_, (yl i I2 H2 l1 l2).2⟩
    obtain ⟨g1, g2⟩ := (yl i I2 H2 l1 l2).1 hi
    refine ⟨g1, fun z H3 hz => ?_⟩
    obtain ⟨I3, d, hd, re⟩ := g2 z H3 hz
    exact ⟨I3, d, hit i d hi hd, re⟩
def seqD : D → Option (List D)
  | .lst ds => some ds
  | .klst ds => some ds
  | .tup ds => some ds
  | .str s => some (s.cps.toList.map fun c => .str ⟨#[c]⟩)
  | _ => none
def itF (e : Sx → Re Sl) : Sx → Re (List D) := fun s => (e s).bind fun r s1 =>
  match fastS r with
  | some d =>
    match seqD d with
    | some ds => .ok ds s1
    | none => .no
  | none => .no
theorem okI_seq {tg e : Expr} {f : Sx → Re Sl} (he : OkE π G e f) : OkI π G tg e (itF f) := .mk fun δ s Φ hs h => di_mono (di_seq (he δ s _ hs (Re.to_mono (Re.to_bind h) (fun r s1 h1 r' δ1 er e1 m1 => by
  cases e2 : fastS r with
  | none => rw [e2] at h1; exact h1.elim
  | some d =>
    rw [e2] at h1
    dsimp only at h1
    refine ⟨d, fastS_ok er e2, ?_⟩
    cases e3 : seqD d with
    | none => rw [e3] at h1; exact h1.elim
    | some ds =>
      rw [e3] at h1
      have hh := h1 δ1 e1 m1
      cases d with
      | lst as => cases e3; exact ⟨_, _, .lst, ds, rfl, fun i d hi hd => hd, hh⟩
      | klst as => cases e3; exact ⟨_, _, .klst, ds, rfl, fun i d hi hd => hd, hh⟩
      | tup as => cases e3; exact ⟨_, _, .tup, ds, rfl, fun i d hi hd => hd, hh⟩
      | str z =>
        cases e3
        refine ⟨_, _, .str, _, by simp, fun i d hi hd => ?_, hh⟩
        obtain ⟨c, h1, h2⟩ := hd
        subst h2
        rw [List.getElem?_map, Array.getElem?_toList, h1]
        rfl
      | _ => cases e3) fun x s1 h1 => h1)))
def rg1F (a : Sx → Re (List Ag)) : Sx → Re (List D) := fun s => (a s).bind fun as s1 =>
  match as with
  | [.v (.int n)] => if n < 2 ^ 62 ∧ -(2 ^ 62) ≤ n then .ok ((List.range n.toNat).map fun i : Nat => .int (i : Int)) s1 else .no
  | _ => .no
def rg2F (a : Sx → Re (List Ag)) : Sx → Re (List D) := fun s => (a s).bind fun as s1 =>
  match as with
  | [.v (.int m), .v (.int n)] => if -(2 ^ 62) ≤ m ∧ m < 2 ^ 62 ∧ -(2 ^ 62) ≤ n ∧ n < 2 ^ 62 then .ok ((List.range (n - m).toNat).map fun i : Nat => .int (m + (i : Int))) s1 else .no
  | _ => .no
theorem okI_rg1 {tg a : Expr} {p : Pos} {g : Sx → Re (List Ag)} (hm : G.X.mg "range" = none) (ha : OkA π G [a] g) (hg : Gl G.X "range" := by rfl) (hp : PA G.X [a] (wes G.X [a]) := by repeat (first | exact pa_nil | refine pa_cons PE.of ?_))
    (hs' : starEach [a] G.X.env = [(false, eval a G.X.env)] := by rfl) : OkI π G tg (.Call (.Name "range" p) [a] [] pos) (rg1F g) := .mk fun δ s Φ hs h => di_mono (di_range1 (ha δ s _ hs (Re.to_mono (Re.to_bind h) (fun as s1 h1 δ1 e1 m1 => by
  split at h1
  · rename_i n
    by_cases hn : n < 2 ^ 62 ∧ -(2 ^ 62) ≤ n
    · rw [if_pos hn] at h1
      refine ⟨n, rfl, hn.1, hn.2, _, by simp, fun i d hi hd => ?_, h1 δ1 e1 m1⟩
      rw [List.getElem?_map, List.getElem?_range hi, hd]
      rfl
    · rw [if_neg hn] at h1; exact h1.elim
  · exact h1.elim) fun x s1 h1 => h1)) hg hm hp hs')
theorem okI_rg2 {tg a b : Expr} {p : Pos} {g : Sx → Re (List Ag)} (hm : G.X.mg "range" = none) (ha : OkA π G [a, b] g) (hg : Gl G.X "range" := by rfl) (hp : PA G.X [a, b] (wes G.X [a, b]) := by repeat (first | exact pa_nil | refine pa_cons PE.of ?_))
    (hs' : starEach [a, b] G.X.env = [(false, eval a G.X.env), (false, eval b G.X.env)] := by rfl) (hs2 : starEach [b] G.X.env = [(false, eval b G.X.env)] := by rfl) : OkI π G tg (.Call (.Name "range" p) [a, b] [] pos) (rg2F g) := .mk fun δ s Φ hs h => di_mono (di_range2 (ha δ s _ hs (Re.to_mono (Re.to_bind h) (fun as s1 h1 δ1 e1 m1 => by
  split at h1
  · rename_i m n
    by_cases hn : -(2 ^ 62) ≤ m ∧ m < 2 ^ 62 ∧ -(2 ^ 62) ≤ n ∧ n < 2 ^ 62
    · rw [if_pos hn] at h1
      refine ⟨m, n, rfl, hn, _, by simp, fun i d hi hd => ?_, h1 δ1 e1 m1⟩
      rw [List.getElem?_map, List.getElem?_range hi, hd]
      rfl
    · rw [if_neg hn] at h1; exact h1.elim
  · exact h1.elim) fun x s1 h1 => h1)) hg hm hp hs' hs2)
/-! ### targets -/
def tgN (i : Nat) : D → Sx → Option Sx := fun d s => some (s.set i (.v d))
theorem sm_val {δ : En} {i : Nat} {d : D} : Sm δ (δ.set i (.val d)) := Sm.set fun q c e => by cases e
theorem okG_name {i : Nat} {x : Str} (hi : Nth G.X.N i x) (hN : G.X.N.Nodup) (hx : Loc G.X.env.scope x := by first | exact .inl rfl | exact .inr rfl) (hf : G.X.fn x = true ∨ G.X.env.scope.names.lookup x = some .local := by first | exact .inl rfl | exact .inr rfl) :
    OkG π G (.Name x pos) [i] (tgN i) := .mk fun d δ s s' Φ hs e h => by
  cases e
  exact dgt_name hi (h _ (hs.set i .v) sm_val) hN hx hf
def tgP (i j : Nat) : D → Sx → Option Sx := fun d s =>
  match d with
  | .tup [a, b] => some ((s.set i (.v a)).set j (.v b))
  | _ => none
theorem okG_pair {x y : Str} {px py : Pos} {i j k : Nat} (hi : Nth G.X.N i x) (hj : Nth G.X.N j y) (hN : G.X.N.Nodup) (hc : G.X.calm = true)
    (hx : Loc G.X.env.scope x := by first | exact .inl rfl | exact .inr rfl) (hf : G.X.fn x = true ∨ G.X.env.scope.names.lookup x = some .local := by first | exact .inl rfl | exact .inr rfl) (hy : Loc G.X.env.scope y := by first | exact .inl rfl | exact .inr rfl) (hg : G.X.fn y = true ∨ G.X.env.scope.names.lookup y = some .local := by first | exact .inl rfl | exact .inr rfl)
    (hn : (assignEach [.Name x px, .Name y py] G.X.env).length = 2 := by rfl) (hst : (assignEach [.Name x px, .Name y py] G.X.env).findIdx? (·.1) = none := by rfl)
    (hs1 : (assignEach (.Name x px :: [.Name y py]) G.X.env).map (·.2) = assign (.Name x px) G.X.env :: (assignEach [.Name y py] G.X.env).map (·.2) := by rfl)
    (hs2 : (assignEach (.Name y py :: []) G.X.env).map (·.2) = assign (.Name y py) G.X.env :: (assignEach [] G.X.env).map (·.2) := by rfl) :
    OkG π G (.Tuple [.Name x px, .Name y py] k pos) [i, j] (tgP i j) := .mk fun d δ s s' Φ hs e h => by
  unfold tgP at e
  split at e
  · cases e
    exact dgt_pair hi hj (h _ ((hs.set i .v).set j .v) (sm_val.trans sm_val)) hN hc hx hf hy hg hn hst hs1 hs2
  · cases e
end
end Zf
namespace Zf
open PySem PySem.Spec L2 Zd
open PyProof.Rows (envOfC)
section
variable [CA] {π : Pi} {G : Gx} {pos : Pos}
/-! ### for -/
def forGo (g : D → Sx → Option Sx) (b : Sx → Rs) : List D → Sx → Rs
  | [], s => .nx s
  | d :: ds, s =>
    match g d s with
    | none => .no
    | some s1 =>
      match b s1 with
      | .nx s2 => forGo g b ds s2
      | .ct s2 => forGo g b ds s2
      | .bk s2 => .nx s2
      | .rt r s2 => .rt r s2
      | .ex x s2 => .ex x s2
      | .no => .no
def forF (g : D → Sx → Option Sx) (it : Sx → Re (List D)) (b : Sx → Rs) : Sx → Rs := fun s => (it s).st fun ds s1 => forGo g b ds s1
theorem okS_for {tg iter : Expr} {body : List Stmt} {js : List Nat} {g : D → Sx → Option Sx} {it : Sx → Re (List D)} {b : Sx → Rs} (hg : OkG π G tg js g) (hi : OkI π G tg iter it) (hb : OkB π G body b)
    (hp : PassesOwn (model G.X.prog G.X.w) G.X.A G.X.env G.X.xe) (hc : G.X.calm = true) (hs' : ∀ x, foldedSetIterable iter G.X.env x = pure x := by exact fun _ => rfl) : OkS π G (.For tg iter body [] pos) (forF g it b) := .mk fun δ s E hs h =>
  ds_for (hi δ s _ hs (Re.to_mono (Re.st_to h) (fun ds s1 h1 δ1 e1 m1 => by
    refine ⟨js, fun i δ2 => ∃ s2, Ers π δ2 s2 ∧ (forGo g b (ds.drop i) s2).to π G E, ⟨s1, e1, h1⟩, fun i d δ2 hlt hd ⟨s2, e2, h2⟩ => ?_, fun δ2 ⟨s2, e2, h2⟩ => ?_⟩
    · have ed : ds.drop i = d :: ds.drop (i + 1) := by
        obtain ⟨hl, hx⟩ := List.getElem?_eq_some_iff.mp hd
        rw [← hx]
        exact List.drop_eq_getElem_cons hl
      rw [ed] at h2
      unfold forGo at h2
      cases e3 : g d s2 with
      | none => rw [e3] at h2; exact h2.elim
      | some s3 =>
        rw [e3] at h2
        dsimp only at h2
        refine hg d δ2 s2 s3 _ e2 e3 fun δ3 e4 _ => hb δ3 s3 _ e4 ?_
        cases e5 : b s3 with
        | nx s4 => rw [e5] at h2; exact fun δ4 a => ⟨s4, a, h2⟩
        | ct s4 => rw [e5] at h2; exact fun δ4 a => ⟨s4, a, h2⟩
        | bk s4 => rw [e5] at h2; exact h2
        | rt r s4 => rw [e5] at h2; exact h2
        | ex x s4 => rw [e5] at h2; exact h2
        | no => rw [e5] at h2; exact h2
    · rw [List.drop_of_length_le (Nat.le_refl _)] at h2
      exact h2 δ2 e2) fun x s1 h1 => h1)) hp hc hs'
/-! ### while -/
def whGo (c : Sx → Re Bool) (b : Sx → Rs) : Nat → Sx → Rs
  | 0, _ => .no
  | n + 1, s =>
    match c s with
    | .ok true s1 =>
      match b s1 with
      | .nx s2 => whGo c b n s2
      | .ct s2 => whGo c b n s2
      | .bk s2 => .nx s2
      | .rt r s2 => .rt r s2
      | .ex x s2 => .ex x s2
      | .no => .no
    | .ok false s1 => .nx s1
    | .ex x s1 => .ex x s1
    | .no => .no
theorem whGo_mono {c : Sx → Re Bool} {b : Sx → Rs} : ∀ {n : Nat} {s : Sx}, whGo c b n s ≠ .no → ∀ m, whGo c b (n + m) s = whGo c b n s
  | 0, _, h, _ => absurd rfl h
  | n + 1, s, h, m => by
    rw [show n + 1 + m = (n + m) + 1 by omega]
    unfold whGo at h ⊢
    cases e : c s with
    | ex x s1 => rfl
    | no => rfl
    | ok k s1 =>
      rw [e] at h
      cases k with
      | false => rfl
      | true =>
        dsimp only at h ⊢
        cases e2 : b s1 with
        | nx s2 => rw [e2] at h; exact whGo_mono h m
        | ct s2 => rw [e2] at h; exact whGo_mono h m
        | bk s2 => rfl
        | rt r s2 => rfl
        | ex x s2 => rfl
        | no => rfl
open Classical in
noncomputable def whF (c : Sx → Re Bool) (b : Sx → Rs) : Sx → Rs := fun s => if h : ∃ n, whGo c b n s ≠ .no then whGo c b (choose h) s else .no
theorem whF_at {c : Sx → Re Bool} {b : Sx → Rs} {s : Sx} {n : Nat} (h : whGo c b n s ≠ .no) : whF c b s = whGo c b n s := by
  have hx : ∃ n, whGo c b n s ≠ .no := ⟨n, h⟩
  unfold whF
  rw [dif_pos hx]
  have hc := Classical.choose_spec hx
  generalize Classical.choose hx = m at hc
  rcases Nat.le_total n m with hm | hm
  · obtain ⟨k, rfl⟩ := Nat.exists_eq_add_of_le hm
    exact whGo_mono h k
  · obtain ⟨k, rfl⟩ := Nat.exists_eq_add_of_le hm
    exact (whGo_mono hc k).symm
theorem whF_eq {c : Sx → Re Bool} {b : Sx → Rs} {s : Sx} {n : Nat} {r : Rs} (h : whGo c b n s = r) (hr : r ≠ .no) : whF c b s = r := by
  rw [whF_at (n := n) (by rw [h]; exact hr), h]
/-- one turn -/
theorem whF_step {c : Sx → Re Bool} {b : Sx → Rs} {s s1 s2 : Sx} (hc : c s = .ok true s1) (hb : b s1 = .nx s2 ∨ b s1 = .ct s2) : whF c b s = whF c b s2 := by
  have key : ∀ n, whGo c b (n + 1) s = whGo c b n s2 := fun n => by
    show (match c s with
      | .ok true s1 => _
      | .ok false s1 => _
      | .ex x s1 => _
      | .no => _ : Rs) = _
    rw [hc]
    dsimp only
    rcases hb with hb | hb <;> rw [hb]
  by_cases h : ∃ n, whGo c b n s2 ≠ .no
  · obtain ⟨n, hn⟩ := h
    rw [whF_at hn, ← key n, whF_at (n := n + 1)]
    rw [key n]; exact hn
  · have h2 : ¬ ∃ n, whGo c b n s ≠ .no := fun ⟨n, hn⟩ => by
      cases n with
      | zero => exact hn rfl
      | succ n => exact h ⟨n, by rw [← key n]; exact hn⟩
    unfold whF
    rw [dif_neg h, dif_neg h2]
theorem whF_stop {c : Sx → Re Bool} {b : Sx → Rs} {s s1 : Sx} (hc : c s = .ok false s1) : whF c b s = .nx s1 :=
  whF_eq (n := 1) (by unfold whGo; rw [hc]) (by simp)
def Rs.unbk : Rs → Rs
  | .bk s2 => .nx s2
  | r => r
theorem whF_out {c : Sx → Re Bool} {b : Sx → Rs} {s s1 : Sx} {r : Rs} (hc : c s = .ok true s1) (hb : b s1 = r) (hr : ∀ s2, r ≠ .nx s2 ∧ r ≠ .ct s2) : whF c b s = r.unbk := by
  by_cases hn : r = .no
  · subst hn
    have h2 : ¬ ∃ n, whGo c b n s ≠ .no := fun ⟨n, hn⟩ => by
      cases n with
      | zero => exact hn rfl
      | succ n => exact hn (by unfold whGo; rw [hc]; dsimp only; rw [hb])
    unfold whF
    rw [dif_neg h2]; rfl
  · refine whF_eq (n := 1) ?_ ?_
    · unfold whGo
      rw [hc]
      dsimp only
      rw [hb]
      cases r with
      | nx s2 => exact absurd rfl (hr s2).1
      | ct s2 => exact absurd rfl (hr s2).2
      | _ => rfl
    · cases r <;> simp [Rs.unbk] at hn ⊢
theorem okS_while {c : Expr} {body : List Stmt} {t : Sx → Re Bool} {b : Sx → Rs} (hc : OkT π G c t) (hb : OkB π G body b) (hp : PassesOwn (model G.X.prog G.X.w) G.X.A G.X.env G.X.xe) : OkS π G (.While c body [] pos) (whF t b) := .mk fun δ s E hs h => by
  unfold whF at h
  split at h
  · rename_i hx
    generalize Classical.choose hx = n at h
    refine ds_while (fun m δ2 => ∃ s2, Ers π δ2 s2 ∧ (whGo t b m s2).to π G E) ⟨s, hs, h⟩ (fun m δ2 ⟨s2, e2, h2⟩ => ?_) hp
    cases m with
    | zero => exact h2.elim
    | succ m =>
      unfold whGo at h2
      refine hc δ2 s2 _ e2 ?_
      cases e3 : t s2 with
      | no => rw [e3] at h2; exact h2
      | ex x s3 => rw [e3] at h2; exact h2
      | ok k s3 =>
        rw [e3] at h2
        intro δ3 e4 m3
        cases k with
        | false => rw [if_neg Bool.false_ne_true]; exact h2 δ3 e4
        | true =>
          rw [if_pos rfl]
          refine hb δ3 s3 _ e4 ?_
          dsimp only at h2
          cases e5 : b s3 with
          | nx s4 => rw [e5] at h2; exact fun δ4 a => ⟨m, Nat.lt_succ_self m, s4, a, h2⟩
          | ct s4 => rw [e5] at h2; exact fun δ4 a => ⟨m, Nat.lt_succ_self m, s4, a, h2⟩
          | bk s4 => rw [e5] at h2; exact h2
          | rt r s4 => rw [e5] at h2; exact h2
          | ex x s4 => rw [e5] at h2; exact h2
          | no => rw [e5] at h2; exact h2
  · exact h.elim
/-! ### comprehensions -/
def wipeS (s : Sx) : List Nat → Sx
  | [] => s
  | i :: r => (wipeS s r).set i .no
theorem wipeS_ok : ∀ {vs : List Nat} {δ : En} {s : Sx}, Ers π δ s → Ers π (wipeE δ vs) (wipeS s vs)
  | [], _, _, h => h
  | i :: r, _, _, h => (wipeS_ok (vs := r) h).set i .no
def cnd (c : Option (Sx → Re Bool)) (s : Sx) : Re Bool :=
  match c with
  | none => .ok true s
  | some c => c s
def lcGo (vs : List Nat) (g : D → Sx → Option Sx) (c : Option (Sx → Re Bool)) (e : Sx → Re Sl) : List D → Sx → Option (List D × Sx)
  | [], s => some ([], s)
  | d :: ds, s =>
    match g d s with
    | none => none
    | some s1 =>
      match cnd c s1 with
      | .ok true s2 =>
        match e s2 with
        | .ok r s3 =>
          match fastS r with
          | some x =>
            match lcGo vs g c e ds (wipeS s3 vs) with
            | some (xs, s4) => some (x :: xs, s4)
            | none => none
          | none => none
        | _ => none
      | .ok false s2 => lcGo vs g c e ds (wipeS s2 vs)
      | _ => none
def lcF (vs : List Nat) (g : D → Sx → Option Sx) (it : Sx → Re (List D)) (c : Option (Sx → Re Bool)) (e : Sx → Re Sl) : Sx → Re Sl := fun s => (it s).bind fun ds s1 =>
  if ds.length ≤ sizeLine then
    match lcGo vs g c e ds (wipeS s1 vs) with
    | some (xs, s2) => .ok (.o 0 (.lst xs)) s2
    | none => .no
  else .no
theorem lcGo_len {vs : List Nat} {g : D → Sx → Option Sx} {c : Option (Sx → Re Bool)} {e : Sx → Re Sl} : ∀ {ds : List D} {s : Sx} {xs : List D} {s' : Sx}, lcGo vs g c e ds s = some (xs, s') → xs.length ≤ ds.length
  | [], _, _, _, h => by cases h; exact Nat.le_refl _
  | d :: ds, s, xs, s', h => by
    unfold lcGo at h
    split at h
    · cases h
    · split at h
      · split at h
        · split at h
          · split at h
            · rename_i h2
              cases h
              have := lcGo_len h2
              simp
              exact this
            · cases h
          · cases h
        · cases h
      · exact Nat.le_succ_of_le (lcGo_len h)
      · cases h
/-- the tests of a comprehension -/
inductive OkC [CA] (π : Pi) (G : Gx) (scope : Scope) : List Expr → Option (Sx → Re Bool) → TT → Prop where
  | nil : OkC π G scope [] none tYes
  | one {c : Expr} {t : Sx → Re Bool} (h : ∀ s H C cl fp, OkT π (G.blk scope s H C cl fp) c t) : OkC π G scope [c] (some t) (wtB G.X scope c)
theorem OkC.tests {scope : Scope} {ifs : List Expr} {c : Option (Sx → Re Bool)} {tt : TT} (h : OkC π G scope ifs c tt) : Tests G.X scope ifs tt := by
  cases h with
  | nil => exact .nil
  | one h => exact .one
theorem OkC.dts {scope : Scope} {ifs : List Expr} {c : Option (Sx → Re Bool)} {tt : TT} (h : OkC π G scope ifs c tt) {δ : En} {s : Sx} {Φ : Bool → En → Prop} (hs : Ers π δ s)
    (k : (cnd c s).to (fun b s' => ∀ δ', Ers π δ' s' → Sm δ δ' → Φ b δ') fun _ _ => False) : Zd.dts G scope ifs δ Φ := by
  cases h with
  | nil => exact k δ hs Sm.refl
  | one h => exact fun s0 H C cl fp => h s0 H C cl fp δ s Φ hs (Re.to_mono k (fun _ _ h => h) fun _ _ h => h.elim)
theorem lc_ok {elt tg : Expr} {ifs : List Expr} {scope : Scope} {vs js : List Nat} {g : D → Sx → Option Sx} {c : Option (Sx → Re Bool)} {e : Sx → Re Sl} {tt : TT} (hjs : ∀ j ∈ js, j ∈ vs) (hg : ∀ s H C cl fp, OkG π (G.blk scope s H C cl fp) tg js g) (hc : OkC π G scope ifs c tt) (he : ∀ s H C cl fp, Zh.Lv (G.X.blk s H scope (compEnvC scope cl C G.X.env) fp) → OkE π (G.blk scope s H C cl fp) elt e)
    {δ δ1 : En} {s1 s2 : Sx} {ds xs : List D} (e1 : Ers π δ1 s1) (m1 : Sm δ δ1) (hl : ds.length ≤ sizeLine) (h : lcGo vs g c e ds (wipeS s1 vs) = some (xs, s2)) {Ψ : List D → En → Prop} (hΨ : ∀ δ2, Ers π δ2 s2 → Sm δ δ2 → Ψ xs δ2) :
    LcOk G elt tg ifs scope vs ds.length (fun i d => ds[i]? = some d) δ1 Ψ (fun i acc δ2 => ∃ s3 rest, Ers π δ2 s3 ∧ Sm δ δ2 ∧ lcGo vs g c e (ds.drop i) s3 = some (rest, s2) ∧ acc ++ rest = xs ∧ acc.length ≤ i) := by
  refine ⟨⟨_, xs, wipeS_ok e1, m1.trans Sm.wipe, h, rfl, Nat.le_refl _⟩, fun i d acc δ2 hlt hd ⟨s3, rest, e3, m3, h3, ea, hi⟩ => ?_, fun acc δ2 ⟨s3, rest, e3, m3, h3, ea, hi⟩ => ?_⟩
  · intro s H C cl fp
    refine ⟨js, hjs, ?_⟩
    have ed : ds.drop i = d :: ds.drop (i + 1) := by
      obtain ⟨hl, hx⟩ := List.getElem?_eq_some_iff.mp hd
      rw [← hx]
      exact List.drop_eq_getElem_cons hl
    rw [ed] at h3
    unfold lcGo at h3
    cases e4 : g d s3 with
    | none => rw [e4] at h3; cases h3
    | some s4 =>
      rw [e4] at h3
      dsimp only at h3
      refine hg s H C cl fp d δ2 s3 s4 _ e3 e4 fun δ3 e5 m5 => ?_
      refine hc.dts e5 ?_
      cases e6 : cnd c s4 with
      | no => rw [e6] at h3; cases h3
      | ex x s5 => rw [e6] at h3; cases h3
      | ok k s5 =>
        rw [e6] at h3
        intro δ4 e7 m7
        cases k with
        | false =>
          rw [if_neg Bool.false_ne_true]
          exact ⟨_, rest, wipeS_ok e7, ((m3.trans m5).trans m7).trans Sm.wipe, h3, ea, Nat.le_succ_of_le hi⟩
        | true =>
          rw [if_pos rfl]
          intro s' H' C' cl' fp' lv'
          dsimp only at h3
          cases e8 : e s5 with
          | no => rw [e8] at h3; cases h3
          | ex x s6 => rw [e8] at h3; cases h3
          | ok r s6 =>
            rw [e8] at h3
            dsimp only at h3
            refine (he s' H' C' cl' fp' lv').run δ4 s5 _ e7 ?_
            rw [e8]
            intro r' δ5 er e9 m9
            cases e10 : fastS r with
            | none => rw [e10] at h3; cases h3
            | some x =>
              rw [e10] at h3
              dsimp only at h3
              cases e11 : lcGo vs g c e (ds.drop (i + 1)) (wipeS s6 vs) with
              | none => rw [e11] at h3; cases h3
              | some z =>
                obtain ⟨ys, s7⟩ := z
                rw [e11] at h3
                cases h3
                exact ⟨x, fastS_ok er e10, by omega, _, ys, wipeS_ok e9, (((m3.trans m5).trans m7).trans m9).trans Sm.wipe, e11, by rw [List.append_assoc]; exact ea, by simp; exact hi⟩
  · rw [List.drop_of_length_le (Nat.le_refl _)] at h3
    cases h3
    rw [List.append_nil] at ea
    subst ea
    exact hΨ δ2 e3 m3
end
end Zf
namespace Zf
open PySem PySem.Spec L2 Zd
open PyProof.Rows (envOfC)
section
variable [CA] {π : Pi} {G : Gx} {pos : Pos}
theorem lc_go {δ : En} {s : Sx} {vs : List Nat} {g : D → Sx → Option Sx} {it : Sx → Re (List D)} {c : Option (Sx → Re Bool)} {e : Sx → Re Sl} {Φ : Sl → Sx → Prop} {Ξ : Xn → Sx → Prop} (h : (lcF vs g it c e s).to Φ Ξ) :
    (it s).to (fun ds s1 => ds.length ≤ sizeLine ∧ ∃ xs s2, lcGo vs g c e ds (wipeS s1 vs) = some (xs, s2) ∧ Φ (.o 0 (.lst xs)) s2) Ξ :=
  Re.to_mono (Re.to_bind h) (fun ds s1 h1 => by
    by_cases hl : ds.length ≤ sizeLine
    · rw [if_pos hl] at h1
      refine ⟨hl, ?_⟩
      cases e1 : lcGo vs g c e ds (wipeS s1 vs) with
      | none => rw [e1] at h1; exact h1.elim
      | some z =>
        obtain ⟨xs, s2⟩ := z
        rw [e1] at h1
        exact ⟨xs, s2, rfl, h1⟩
    · rw [if_neg hl] at h1; exact h1.elim) fun x s1 h1 => h1
theorem okE_lc {elt tg iter : Expr} {ifs : List Expr} {scope : Scope} {own : List (Str × Nat)} {js : List Nat} {g : D → Sx → Option Sx} {it : Sx → Re (List D)} {c : Option (Sx → Re Bool)} {e : Sx → Re Sl} {tt : TT} (hN : G.X.N.Nodup) (hc : G.X.calm = true) (hg : ∀ s H C cl fp, OkG π (G.blk scope s H C cl fp) tg js g) (hi : OkI π G tg iter it) (ht : OkC π G scope ifs c tt) (he : ∀ s H C cl fp, Zh.Lv (G.X.blk s H scope (compEnvC scope cl C G.X.env) fp) → OkE π (G.blk scope s H C cl fp) elt e)
    (ok : blkC G.X.N G.X.env.scope scope own = true := by rfl) (hjs : ∀ j ∈ js, j ∈ own.map (·.2) := by decide) (hs' : ∀ x, foldedSetIterable iter G.X.env x = pure x := by exact fun _ => rfl) : OkE π G (.ListComp elt [⟨tg, iter, ifs, 0⟩] scope pos) (lcF (own.map (·.2)) g it c e) := .mk fun δ s Φ hs h =>
  de_lc (own := own) ht.tests (hi δ s _ hs (Re.to_mono (lc_go (δ := δ) h) (fun ds s1 ⟨hl, xs, s2, h2, h3⟩ δ1 e1 m1 => ⟨_, lc_ok hjs hg ht he e1 m1 hl h2 fun δ2 e2 m2 p => h3 _ _ .o e2 m2⟩) fun x s1 h1 => h1)) hc hN (blkOk_by ok) hs'
theorem okS_asgLc {i : Nat} {y : Str} {py spos : Pos} {elt tg iter : Expr} {ifs : List Expr} {scope : Scope} {own : List (Str × Nat)} {js : List Nat} {g : D → Sx → Option Sx} {it : Sx → Re (List D)} {c : Option (Sx → Re Bool)} {e : Sx → Re Sl} {tt : TT} (hy : Nth G.X.N i y) (hN : G.X.N.Nodup) (hc : G.X.calm = true) (hg : ∀ s H C cl fp, OkG π (G.blk scope s H C cl fp) tg js g) (hi : OkI π G tg iter it) (ht : OkC π G scope ifs c tt) (he : ∀ s H C cl fp, Zh.Lv (G.X.blk s H scope (compEnvC scope cl C G.X.env) fp) → OkE π (G.blk scope s H C cl fp) elt e)
    (hyl : G.X.env.scope.names.lookup y = some .local := by rfl) (ok : blkC G.X.N G.X.env.scope scope own = true := by rfl) (hsw : swapsWith (.ListComp elt [⟨tg, iter, ifs, 0⟩] scope pos) (some (.Name y py)) spos.line G.X.env = pure true := by rfl) (hjs : ∀ j ∈ js, j ∈ own.map (·.2) := by decide) (hs' : ∀ x, foldedSetIterable iter G.X.env x = pure x := by exact fun _ => rfl) :
    OkS π G (.Assign [.Name y py] (.ListComp elt [⟨tg, iter, ifs, 0⟩] scope pos) spos) (asgF i (lcF (own.map (·.2)) g it c e)) := .mk fun δ s E hs h =>
  ds_asgLc (own := own) hy ht.tests (hi δ s _ hs (Re.to_mono (lc_go (δ := δ) (Re.st_to h)) (fun ds s1 ⟨hl, xs, s2, h2, h3⟩ δ1 e1 m1 => ⟨_, lc_ok hjs hg ht he e1 m1 hl h2 fun δ2 e2 m2 p => h3 _ (e2.set i .o)⟩) fun x s1 h1 => h1)) hc hN hyl (blkOk_by ok) hsw hs'
end
/-! ### defs -/
def untag : Sl → Sl
  | .o _ c => .o 0 c
  | .x _ => .no
  | x => x
theorem untag_ok {π : Pi} {r' : DV} {r : Sl} (hx : ∀ e, r ≠ .x e) (h : Er π r' r) : Er0 r' (untag r) := fun π' => by
  cases h with
  | no => exact .no
  | x => exact absurd rfl (hx _)
  | v => exact .v
  | o => exact .o
  | t => exact .o
def runP (n : Nat) (body : Sx → Rs) : List D → Rc := fun ds =>
  match body (ds.map .v ++ List.replicate (n - ds.length) .no) with
  | .nx _ => .ok (.v .non)
  | .rt .no _ => .no
  | .rt (.x _) _ => .no
  | .rt r _ => .ok (untag r)
  | .ex x _ => .ex x
  | _ => .no
def runM (n : Nat) (body : Sx → Rs) : Cell → List D → RcM := fun c ds =>
  match body (.o 1 c :: (ds.map .v ++ List.replicate (n - (ds.length + 1)) .no)) with
  | .nx (.o 1 c' :: _) => .ok (.v .non) c'
  | .rt .no _ => .no
  | .rt (.x _) _ => .no
  | .rt r (.o 1 c' :: _) => .ok (untag r) c'
  | .ex x (.o 1 c' :: _) => .ex x c'
  | _ => .no
section
variable [CA] {P : Program} {w : World} {K : PySem.W.Frag} {mg : Str → Option Value} {base : Heap}
theorem okR_of {r' : DV} {r : Sl} {π : Pi} {p : Prop} (e : Er π r' r) (h : r ≠ .no) (hp : p) : okR r' p := by
  cases e with
  | no => exact absurd rfl h
  | v => exact hp
  | o => exact hp
  | t => exact hp
  | x => exact hp
theorem fnP {x qual : Str} {st : Stmt} {f : Addr} {fd : FuncData} {N ps : List Str} {k : Nat} {body : Sx → Rs} (F : Fun K x qual st f fd) (Sc : FnScope N ps (defScope st)) (hN : ps.length ≤ N.length)
    (hbody : ∀ (π : Pi) (cdv : Value) (A : Around) (outer : List PySem.Env) (s : Shared) (H : Hp) (E : XK) (Ξ : Exn → Prop), Room k (A.deeper (envOfC qual (defScope st) s.heap.objs.size f cdv)) → OkB π ⟨fX P w K mg base N qual st f cdv A outer s H E, fW E, fun x _ => Ξ x⟩ (defBody st) body) :
    FnOk P w K mg base (L2N.CX P w) (k + 1) f fd ps (spP K ps.length (specP (runP N.length body))) :=
  fn_P F Sc hN fun cdv A outer s H E ds Ψ Ξ hr hl hS => by
    refine hbody ⟨0, 0, 0, ⟨0, [], []⟩⟩ cdv A outer s H E Ξ hr _ _ _ ((Ers.vals ds).app (Ers.nos _)) ?_
    unfold specP runP at hS
    cases e : body (ds.map .v ++ List.replicate (N.length - ds.length) .no) with
    | nx s1 => rw [e] at hS; exact fun δ' a => hS _ fun _ => .v
    | rt r s1 =>
      rw [e] at hS
      intro r' δ' er a
      cases r with
      | no => exact hS.elim
      | x _ => exact hS.elim
      | v d => exact okR_of er (by simp) (hS _ (untag_ok (by simp) er))
      | o t c => exact okR_of er (by simp) (hS _ (untag_ok (by simp) er))
    | bk s1 => rw [e] at hS; exact hS.elim
    | ct s1 => rw [e] at hS; exact hS.elim
    | ex x s1 => rw [e] at hS; exact fun δ' a => hS
    | no => rw [e] at hS; exact hS.elim
theorem head_own {π : Pi} {c : Cell} {δ : En} {s : Sx} (h : Ers π δ (.o 1 c :: s)) : δ[0]? = some (.own π.p1 c) := by
  cases h with
  | cons a r => cases a with
    | t => rfl
theorem fnM {x qual : Str} {st : Stmt} {f : Addr} {fd : FuncData} {N ps : List Str} {k : Nat} {body : Sx → Rs} (F : Fun K x qual st f fd) (Sc : FnScope N ps (defScope st)) (hN : ps.length ≤ N.length)
    (hbody : ∀ (π : Pi) (cdv : Value) (A : Around) (outer : List PySem.Env) (s : Shared) (H : Hp) (E : XK) (Ξ : Exn → En → Prop), Room k (A.deeper (envOfC qual (defScope st) s.heap.objs.size f cdv)) → OkB π ⟨fX P w K mg base N qual st f cdv A outer s H E, fW E, Ξ⟩ (defBody st) body) :
    FnOk P w K mg base (L2N.CX P w) (k + 1) f fd ps (spM K ps.length (specM (runM N.length body))) :=
  fn_M F Sc hN fun cdv A outer s H E p c ds Ψ Ξ hr hl hS => by
    refine hbody ⟨p, 0, 0, ⟨0, [], []⟩⟩ cdv A outer s H E _ hr _ (.o 1 c :: (ds.map .v ++ List.replicate (N.length - (ds.length + 1)) .no)) _ (.cons .t ((Ers.vals ds).app (Ers.nos _))) ?_
    unfold specM at hS
    have hM : ∃ m, m = body (.o 1 c :: (ds.map .v ++ List.replicate (N.length - (ds.length + 1)) .no)) := ⟨_, rfl⟩
    obtain ⟨m, hm⟩ := hM
    unfold runM at hS
    rw [← hm] at hS ⊢
    split at hS
    · rename_i r c' e
      split at e
      · cases e
        exact fun δ' a => ⟨_, _, head_own a, .refl, hS _ fun _ => .v⟩
      · cases e
      · cases e
      · rename_i r2 c2 s2 hne hnx
        cases e
        exact fun r' δ' er a => okR_of er (fun z => hne z) ⟨_, _, head_own a, .refl, hS _ (untag_ok (fun e z => hnx e z) er)⟩
      · cases e
      · cases e
    · rename_i x c' e
      split at e
      · cases e
      · cases e
      · cases e
      · cases e
      · cases e
        exact fun δ' a => ⟨_, _, head_own a, .refl, hS⟩
      · cases e
    · exact hS.elim
end
end Zf
/-! What operators and built-ins give on data. -/
namespace Zf
open PySem PySem.Spec L2 Zd
/-! ### equality of data -/
mutual
def eqD : D → D → Bool
  | .non, .non => true
  | .bl a, .bl b => a == b
  | .bl a, .int j => (if a then 1 else 0) == j
  | .int i, .bl b => i == (if b then 1 else 0)
  | .int i, .int j => i == j
  | .str x, .str y => x == y
  | .lst xs, .lst ys => eqDs xs ys
  | .tup xs, .tup ys => eqDs xs ys
  | _, _ => false
def eqDs : List D → List D → Bool
  | [], [] => true
  | x :: xs, y :: ys => eqD x y && eqDs xs ys
  | _, _ => false
end
mutual
theorem eqD_py : ∀ (x y : D) (p q : PyData), toPy x = some p → toPy y = some q → PyData.eqv p q = eqD x y
  | .non, y, p, q, h, g => by cases h; cases y <;> simp [toPy] at g <;> first | (subst g; rfl) | (obtain ⟨_, _, rfl⟩ := g; rfl)
  | .bl _, y, p, q, h, g => by cases h; cases y <;> simp [toPy] at g <;> first | (subst g; rfl) | (obtain ⟨_, _, rfl⟩ := g; rfl)
  | .int _, y, p, q, h, g => by cases h; cases y <;> simp [toPy] at g <;> first | (subst g; rfl) | (obtain ⟨_, _, rfl⟩ := g; rfl)
  | .str _, y, p, q, h, g => by cases h; cases y <;> simp [toPy] at g <;> first | (subst g; rfl) | (obtain ⟨_, _, rfl⟩ := g; rfl)
  | .lst xs, y, p, q, h, g => by
    simp [toPy] at h
    obtain ⟨ps, h1, rfl⟩ := h
    cases y with
    | lst ys =>
      simp [toPy] at g
      obtain ⟨qs, g1, rfl⟩ := g
      exact eqDs_py xs ys ps qs h1 g1
    | tup ys => simp [toPy] at g; obtain ⟨_, _, rfl⟩ := g; rfl
    | non => simp [toPy] at g; subst g; rfl
    | bl _ => simp [toPy] at g; subst g; rfl
    | int _ => simp [toPy] at g; subst g; rfl
    | str _ => simp [toPy] at g; subst g; rfl
    | _ => simp [toPy] at g
  | .tup xs, y, p, q, h, g => by
    simp [toPy] at h
    obtain ⟨ps, h1, rfl⟩ := h
    cases y with
    | tup ys =>
      simp [toPy] at g
      obtain ⟨qs, g1, rfl⟩ := g
      exact eqDs_py xs ys ps qs h1 g1
    | lst ys => simp [toPy] at g; obtain ⟨_, _, rfl⟩ := g; rfl
    | non => simp [toPy] at g; subst g; rfl
    | bl _ => simp [toPy] at g; subst g; rfl
    | int _ => simp [toPy] at g; subst g; rfl
    | str _ => simp [toPy] at g; subst g; rfl
    | _ => simp [toPy] at g
  | .raw _, _, _, _, h, _ => by simp [toPy] at h
  | .klst _, _, _, _, h, _ => by simp [toPy] at h
  | .dic _ _, _, _, _, h, _ => by simp [toPy] at h
  | .obj _ _ _, _, _, _, h, _ => by simp [toPy] at h
  | .xex _ _ _ _, _, _, _, h, _ => by simp [toPy] at h
theorem eqDs_py : ∀ (xs ys : List D) (ps qs : List PyData), toPys xs = some ps → toPys ys = some qs → PyData.eqvAll ps qs = eqDs xs ys
  | [], [], _, _, h, g => by cases h; cases g; rfl
  | [], y :: ys, _, _, h, g => by
    cases h
    simp [toPys, Option.bind_eq_some_iff] at g
    obtain ⟨p, _, ps, _, rfl⟩ := g
    rfl
  | x :: xs, [], _, _, h, g => by
    cases g
    simp [toPys, Option.bind_eq_some_iff] at h
    obtain ⟨p, _, ps, _, rfl⟩ := h
    rfl
  | x :: xs, y :: ys, _, _, h, g => by
    simp [toPys, Option.bind_eq_some_iff] at h g
    obtain ⟨p, h1, ps, h2, rfl⟩ := h
    obtain ⟨q, g1, qs, g2, rfl⟩ := g
    show (PyData.eqv p q && PyData.eqvAll ps qs) = (eqD x y && eqDs xs ys)
    rw [eqD_py x y p q h1 g1, eqDs_py xs ys ps qs h2 g2]
end
/-- data that may be compared -/
def okB : Nat → D → Bool
  | _, .non => true
  | _, .bl _ => true
  | _, .int _ => true
  | _, .str s => PyData.strOk s
  | n + 1, .lst ds => ds.all (okB n)
  | n + 1, .tup ds => ds.all (okB n)
  | _, _ => false
theorem okB_ok : ∀ (n : Nat) (d : D), okB n d = true → okD n d
  | n, .non, _ => by cases n <;> trivial
  | n, .bl _, _ => by cases n <;> trivial
  | n, .int _, _ => by cases n <;> trivial
  | n, .str s, h => by
    have h : PyData.strOk s = true := by cases n <;> exact h
    cases n <;> exact h
  | n + 1, .lst ds, h => fun x hx => okB_ok n x (List.all_eq_true.mp h x hx)
  | n + 1, .tup ds, h => fun x hx => okB_ok n x (List.all_eq_true.mp h x hx)
  | 0, .lst _, h => by cases h
  | 0, .tup _, h => by cases h
  | n, .raw _, h => by cases n <;> cases h
  | n, .klst _, h => by cases n <;> cases h
  | n, .dic _ _, h => by cases n <;> cases h
  | n, .obj _ _ _, h => by cases n <;> cases h
  | n, .xex _ _ _ _, h => by cases n <;> cases h
theorem okB_py {d : D} (h : okB 64 d = true) : ∃ p, toPy d = some p ∧ SeqAt.shaped p = true := by
  obtain ⟨p, p1, p2, p3⟩ := okD_py 64 d (okB_ok 64 d h)
  exact ⟨p, p1, by unfold SeqAt.shaped; rw [p2, decide_eq_true p3]; rfl⟩
def eqQ : D → D → Option Bool
  | .int i, .int j => some (decide (i = j))
  | .str s, .str t => some (decide (s = t))
  | .bl a, .bl b => some (decide (a = b))
  | .non, .int _ => some false
  | .int _, .non => some false
  | .non, .str _ => some false
  | .str _, .non => some false
  | .int _, .str _ => some false
  | .str _, .int _ => some false
  | x, y => if (okB 64 x && okB 64 y) = true then some (eqD x y) else none
theorem dec_V {a b : Bool} : decide (V.bl a = V.bl b) = decide (a = b) := by
  cases a <;> cases b <;> rfl
def pEq : List D → Option Sl
  | [x, y] => (eqQ x y).map fun b => .v (.bl b)
  | _ => none
def pNe : List D → Option Sl
  | [x, y] => (eqQ x y).map fun b => .v (.bl (!b))
  | _ => none
section
variable {G : Gx}
theorem eq_ok {x y : D} {b : Bool} (hu : G.X.A.units + 64 < cLine) (h : eqQ x y = some b) {Ψ : DV → Prop} (k : Ψ (.val (.bl b))) : DR G.X.K (R2l (wop G.X (compareOp .Eq))) [x, y] Ψ := by
  unfold eqQ at h
  split at h
  · cases h; exact dr_eq k
  · cases h; exact dr_eqstr k
  · cases h; exact dr_eqS rfl rfl rfl (by rw [dec_V]; exact k)
  · cases h; exact dr_eqS rfl rfl rfl (by simpa using k)
  · cases h; exact dr_eqS rfl rfl rfl (by simpa using k)
  · cases h; exact dr_eqS rfl rfl rfl (by simpa using k)
  · cases h; exact dr_eqS rfl rfl rfl (by simpa using k)
  · cases h; exact dr_eqS rfl rfl rfl (by simpa using k)
  · cases h; exact dr_eqS rfl rfl rfl (by simpa using k)
  · split at h
    · rename_i hb
      rw [Bool.and_eq_true] at hb
      obtain ⟨p, p1, p2⟩ := okB_py hb.1
      obtain ⟨q, q1, q2⟩ := okB_py hb.2
      cases h
      exact dr_eqD hu p1 q1 p2 q2 (by rw [eqD_py _ _ p q p1 q1]; exact k)
    · cases h
theorem ne_ok {x y : D} {b : Bool} (hu : G.X.A.units + 64 < cLine) (h : eqQ x y = some b) {Ψ : DV → Prop} (k : Ψ (.val (.bl (!b)))) : DR G.X.K (R2l (wop G.X (compareOp .NotEq))) [x, y] Ψ := by
  unfold eqQ at h
  split at h
  · cases h; exact dr_ne k
  · cases h; exact dr_nestr k
  · cases h; exact dr_neS rfl rfl rfl (by rw [dec_V]; exact k)
  · cases h; exact dr_neS rfl rfl rfl (by simpa using k)
  · cases h; exact dr_neS rfl rfl rfl (by simpa using k)
  · cases h; exact dr_neS rfl rfl rfl (by simpa using k)
  · cases h; exact dr_neS rfl rfl rfl (by simpa using k)
  · cases h; exact dr_neS rfl rfl rfl (by simpa using k)
  · cases h; exact dr_neS rfl rfl rfl (by simpa using k)
  · split at h
    · rename_i hb
      rw [Bool.and_eq_true] at hb
      obtain ⟨p, p1, p2⟩ := okB_py hb.1
      obtain ⟨q, q1, q2⟩ := okB_py hb.2
      cases h
      exact dr_neD hu p1 q1 p2 q2 (by rw [eqD_py _ _ p q p1 q1]; exact k)
    · cases h
theorem pEq_ok (hu : G.X.A.units + 64 < cLine) : PrimOk G (R2l (wop G.X (compareOp .Eq))) pEq := fun ds r e => by
  unfold pEq at e
  split at e
  · rename_i x y
    cases h : eqQ x y with
    | none => rw [h] at e; cases e
    | some b => rw [h] at e; cases e; exact eq_ok hu h fun _ => .v
  · cases e
theorem pNe_ok (hu : G.X.A.units + 64 < cLine) : PrimOk G (R2l (wop G.X (compareOp .NotEq))) pNe := fun ds r e => by
  unfold pNe at e
  split at e
  · rename_i x y
    cases h : eqQ x y with
    | none => rw [h] at e; cases e
    | some b => rw [h] at e; cases e; exact ne_ok hu h fun _ => .v
  · cases e
/-! ### numbers -/
def pLt : List D → Option Sl
  | [.int i, .int j] => some (.v (.bl (decide (i < j))))
  | _ => none
def pLe : List D → Option Sl
  | [.int i, .int j] => some (.v (.bl (decide (i ≤ j))))
  | _ => none
def pGt : List D → Option Sl
  | [.int i, .int j] => some (.v (.bl (decide (j < i))))
  | _ => none
def pGe : List D → Option Sl
  | [.int i, .int j] => some (.v (.bl (decide (j ≤ i))))
  | _ => none
theorem pLt_ok : PrimOk G (R2l (wop G.X (compareOp .Lt))) pLt := fun ds r e => by
  unfold pLt at e
  split at e
  · cases e; exact dr_lt fun _ => .v
  · cases e
theorem pLe_ok : PrimOk G (R2l (wop G.X (compareOp .LtE))) pLe := fun ds r e => by
  unfold pLe at e
  split at e
  · cases e; exact dr_le fun _ => .v
  · cases e
theorem pGt_ok : PrimOk G (R2l (wop G.X (compareOp .Gt))) pGt := fun ds r e => by
  unfold pGt at e
  split at e
  · cases e; exact dr_gt fun _ => .v
  · cases e
theorem pGe_ok : PrimOk G (R2l (wop G.X (compareOp .GtE))) pGe := fun ds r e => by
  unfold pGe at e
  split at e
  · cases e; exact dr_ge fun _ => .v
  · cases e
def pAdd : List D → Option Sl
  | [.int i, .int j] => some (.v (.int (i + j)))
  | [.str s, .str t] => if s.length + t.length ≤ sizeLine then some (.v (.str (s ++ t))) else none
  | [.lst a, .lst b] => if a.length + b.length ≤ sizeLine then some (.o 0 (.lst (a ++ b))) else none
  | [.tup a, .tup b] => if a.length + b.length ≤ sizeLine then some (.v (.tup (a ++ b))) else none
  | _ => none
theorem pAdd_ok : PrimOk G (R2l (wop G.X (binaryOp .Add))) pAdd := fun ds r e => by
  unfold pAdd at e
  split at e
  · cases e; exact dr_add fun _ => .v
  · split at e
    · rename_i h; cases e; exact dr_addstr h fun _ => .v
    · cases e
  · split at e
    · rename_i h; cases e; exact dr_cat h fun _ _ => .o
    · cases e
  · split at e
    · rename_i h; cases e; exact dr_catT h fun _ => .v
    · cases e
  · cases e
def pSub : List D → Option Sl
  | [.int i, .int j] => some (.v (.int (i - j)))
  | _ => none
theorem pSub_ok : PrimOk G (R2l (wop G.X (binaryOp .Sub))) pSub := fun ds r e => by
  unfold pSub at e
  split at e
  · cases e; exact dr_sub fun _ => .v
  · cases e
def pMul : List D → Option Sl
  | [.int i, .int j] => if (-(2 ^ 64) < i ∧ i < 2 ^ 64) ∨ (-(2 ^ 64) < j ∧ j < 2 ^ 64) then some (.v (.int (i * j))) else none
  | [.lst a, .int k] => if -(2 ^ 63) ≤ k ∧ k < 2 ^ 63 ∧ a.length * k.toNat ≤ sizeLine then some (.o 0 (.lst (List.replicate k.toNat a).flatten)) else none
  | _ => none
theorem pMul_ok : PrimOk G (R2l (wop G.X (binaryOp .Mult))) pMul := fun ds r e => by
  unfold pMul at e
  split at e
  · split at e
    · rename_i h; cases e; exact dr_mul64 h fun _ => .v
    · cases e
  · split at e
    · rename_i h; cases e; exact dr_rep h.1 h.2.1 h.2.2 fun _ _ => .o
    · cases e
  · cases e
def pFdiv : List D → Option Sl
  | [.int i, .int j] => if 0 < j ∧ j < 4611686018427387904 then some (.v (.int (i / j))) else none
  | _ => none
theorem pFdiv_ok : PrimOk G (R2l (wop G.X (binaryOp .FloorDiv))) pFdiv := fun ds r e => by
  unfold pFdiv at e
  split at e
  · rename_i i j
    split at e
    · rename_i h
      cases e
      refine dr_fdivW ⟨h.1, ?_⟩ fun _ => .v
      have h2 : j.natAbs < 2 ^ 62 := by
        have := h.2
        omega
      have h3 : j.natAbs ≠ 0 := by
        have := h.1
        omega
      have := (Nat.log2_lt h3).mpr h2
      omega
    · cases e
  · cases e
def pMod : List D → Option Sl
  | [.int i, .int j] => if 0 < j then some (.v (.int (i % j))) else none
  | _ => none
theorem pMod_ok : PrimOk G (R2l (wop G.X (binaryOp .Mod))) pMod := fun ds r e => by
  unfold pMod at e
  split at e
  · split at e
    · rename_i h; cases e; exact dr_mod h fun _ => .v
    · cases e
  · cases e
def pPow : List D → Option Sl
  | [.int i, .int j] => if 0 ≤ j ∧ j ≤ 1000000 ∧ i.natAbs < 2 ^ 64 then some (.v (.int (i ^ j.toNat))) else none
  | _ => none
theorem pPow_ok : PrimOk G (R2l (wop G.X (binaryOp .Pow))) pPow := fun ds r e => by
  unfold pPow at e
  split at e
  · split at e
    · rename_i h; cases e; exact dr_pow h fun _ => .v
    · cases e
  · cases e
def pShl : List D → Option Sl
  | [.int i, .int j] => if 0 ≤ j ∧ j ≤ 1000000 ∧ i.natAbs < 2 ^ 64 then some (.v (.int (i * 2 ^ j.toNat))) else none
  | _ => none
theorem pShl_ok : PrimOk G (R2l (wop G.X (binaryOp .LShift))) pShl := fun ds r e => by
  unfold pShl at e
  split at e
  · split at e
    · rename_i h; cases e; exact dr_shl h fun _ => .v
    · cases e
  · cases e
def pShr : List D → Option Sl
  | [.int i, .int j] => if 0 ≤ j then some (.v (.int (i / 2 ^ j.toNat))) else none
  | _ => none
theorem pShr_ok : PrimOk G (R2l (wop G.X (binaryOp .RShift))) pShr := fun ds r e => by
  unfold pShr at e
  split at e
  · split at e
    · rename_i h; cases e; exact dr_shr h fun _ => .v
    · cases e
  · cases e
def pBand : List D → Option Sl
  | [.int i, .int 1] => if 0 ≤ i then some (.v (.int (i % 2))) else none
  | _ => none
theorem pBand_ok : PrimOk G (R2l (wop G.X (binaryOp .BitAnd))) pBand := fun ds r e => by
  unfold pBand at e
  split at e
  · split at e
    · rename_i h; cases e; exact dr_odd h fun _ => .v
    · cases e
  · cases e
def pNeg : List D → Option Sl
  | [.int i] => some (.v (.int (-i)))
  | _ => none
theorem pNeg_ok : PrimOk G (R1l (wun G.X (unaryOp .USub))) pNeg := fun ds r e => by
  unfold pNeg at e
  split at e
  · cases e; exact dr_neg fun _ => .v
  · cases e
/-! += -/
def pIadd : List D → Option Sl
  | [.int i, .int j] => some (.v (.int (i + j)))
  | _ => none
theorem pIadd_ok : PrimOk G (R2l (wop G.X (inplaceOp .Add))) pIadd := fun ds r e => by
  unfold pIadd at e
  split at e
  · cases e; exact dr_iadd fun _ => .v
  · cases e
def pIsub : List D → Option Sl
  | [.int i, .int j] => some (.v (.int (i - j)))
  | _ => none
theorem pIsub_ok : PrimOk G (R2l (wop G.X (inplaceOp .Sub))) pIsub := fun ds r e => by
  unfold pIsub at e
  split at e
  · cases e; exact dr_isub fun _ => .v
  · cases e
/-! is -/
def pIs : List D → Option Sl
  | [.bl a, .bl b] => some (.v (.bl (decide (a = b))))
  | [x, .non] => if clear x = true then some (.v (.bl (isNon x))) else none
  | _ => none
def pIsnot : List D → Option Sl
  | [.bl a, .bl b] => some (.v (.bl (!decide (a = b))))
  | [x, .non] => if clear x = true then some (.v (.bl (!isNon x))) else none
  | _ => none
theorem pIs_ok : PrimOk G (R2l (wop G.X (compareOp .Is))) pIs := fun ds r e => by
  unfold pIs at e
  split at e
  · cases e
    exact dr_R2 fun I H v w s r1 r2 Q q => by
      cases (show _ = _ from r1)
      cases (show _ = _ from r2)
      exact op_is_bl.to ⟨_, _, rfl, rfl, q _ _ I H (fun _ => .v) (Res.val s rfl)⟩
  · split at e
    · rename_i h; cases e; exact dr_isN h fun _ => .v
    · cases e
  · cases e
theorem pIsnot_ok : PrimOk G (R2l (wop G.X (compareOp .IsNot))) pIsnot := fun ds r e => by
  unfold pIsnot at e
  split at e
  · cases e
    exact dr_R2 fun I H v w s r1 r2 Q q => by
      cases (show _ = _ from r1)
      cases (show _ = _ from r2)
      exact op_isnot_bl.to ⟨_, _, rfl, rfl, q _ _ I H (fun _ => .v) (Res.val s rfl)⟩
  · split at e
    · rename_i h; cases e; exact dr_notN h fun _ => .v
    · cases e
  · cases e
/-! ### in -/
def flat1 : D → Bool
  | .non => true
  | .bl _ => true
  | .int _ => true
  | .str _ => true
  | _ => false
def inD (x : D) (as : List D) : Bool := as.any fun y => eqD y x
theorem flat1_v {d : D} (h : flat1 d = true) : ∃ u, vOf d = some u := by
  cases d <;> first | exact ⟨_, rfl⟩ | cases h
theorem eqV_D {x y : D} {u w : V} (h1 : vOf x = some u) (h2 : vOf y = some w) : eqV u w = eqD x y := by
  cases x <;> cases h1 <;> cases y <;> cases h2 <;> rfl
theorem inV_D {x : D} {u : V} (h1 : vOf x = some u) : ∀ {as : List D}, as.all flat1 = true → ∃ us, as.mapM vOf = some us ∧ inV u us = inD x as
  | [], _ => ⟨[], rfl, rfl⟩
  | y :: as, h => by
    rw [List.all_cons, Bool.and_eq_true] at h
    obtain ⟨w, hw⟩ := flat1_v h.1
    obtain ⟨us, e1, e2⟩ := inV_D h1 h.2
    refine ⟨w :: us, by simp [List.mapM_cons, hw, e1], ?_⟩
    show (eqV w u || inV u us) = (eqD y x || inD x as)
    rw [e2, eqV_D hw h1]
def pIn : List D → Option Sl
  | [x, .lst as] => if flat1 x = true ∧ as.all flat1 = true then some (.v (.bl (inD x as))) else none
  | [x, .tup as] => if flat1 x = true ∧ as.all flat1 = true then some (.v (.bl (inD x as))) else none
  | [.str x, .str z] =>
    match x.cps.toList with
    | [c] => some (.v (.bl (decide (c ∈ z.cps.toList))))
    | _ => none
  | _ => none
def pNin : List D → Option Sl
  | [x, .lst as] => if flat1 x = true ∧ as.all flat1 = true then some (.v (.bl (!inD x as))) else none
  | [x, .tup as] => if flat1 x = true ∧ as.all flat1 = true then some (.v (.bl (!inD x as))) else none
  | _ => none
theorem pIn_ok : PrimOk G (R2l (wop G.X (compareOp .In))) pIn := fun ds r e => by
  unfold pIn at e
  split at e
  · split at e
    · rename_i h
      obtain ⟨u, hu⟩ := flat1_v h.1
      obtain ⟨us, e1, e2⟩ := inV_D hu h.2
      cases e
      exact dr_in hu e1 (.inl rfl) (by rw [e2]; exact fun _ => .v)
    · cases e
  · split at e
    · rename_i h
      obtain ⟨u, hu⟩ := flat1_v h.1
      obtain ⟨us, e1, e2⟩ := inV_D hu h.2
      cases e
      exact dr_in hu e1 (.inr rfl) (by rw [e2]; exact fun _ => .v)
    · cases e
  · rename_i x z
    split at e
    · rename_i c hc
      cases e
      have hx : x = ⟨#[c]⟩ := by
        cases x with
        | mk a => exact congrArg Str.mk (Array.toList_inj.mp hc)
      subst hx
      exact dr_R2 fun I H v w s r1 r2 Q q => by
        cases (show _ = _ from r1)
        cases (show _ = _ from r2)
        exact op_in_sign.to ⟨_, _, rfl, rfl, q _ _ I H (fun _ => .v) (Res.val s rfl)⟩
    · cases e
  · cases e
theorem pNin_ok : PrimOk G (R2l (wop G.X (compareOp .NotIn))) pNin := fun ds r e => by
  unfold pNin at e
  split at e
  · split at e
    · rename_i h
      obtain ⟨u, hu⟩ := flat1_v h.1
      obtain ⟨us, e1, e2⟩ := inV_D hu h.2
      cases e
      exact dr_notin hu e1 (.inl rfl) (by rw [e2]; exact fun _ => .v)
    · cases e
  · split at e
    · rename_i h
      obtain ⟨u, hu⟩ := flat1_v h.1
      obtain ⟨us, e1, e2⟩ := inV_D hu h.2
      cases e
      exact dr_notin hu e1 (.inr rfl) (by rw [e2]; exact fun _ => .v)
    · cases e
  · cases e
/-! ### built-ins -/
def pLen : List D → Option Sl
  | [.lst as] => some (.v (.int as.length))
  | [.klst as] => some (.v (.int as.length))
  | [.tup as] => some (.v (.int as.length))
  | [.str z] => if z.length ≤ sizeLine then some (.v (.int z.length)) else none
  | _ => none
theorem dr_lenK {X : Cx} {Ψ : DV → Prop} {as : List D} (h : Ψ (.val (.int as.length))) : DR X.K (wcall X (.builtin "len")) [.klst as] Ψ := dr_1 fun I H v s r Q q => by
  obtain ⟨a, xs, rfl, h1, h2⟩ := r
  exact call_len.to ⟨_, as.length, rfl, .inl ⟨xs, s.sqL h1, h2.length.symm⟩, q _ _ I H h (Res.val s rfl)⟩
theorem pLen_ok : PrimOk G (wcall G.X (.builtin "len")) pLen := fun ds r e => by
  unfold pLen at e
  split at e
  · cases e; exact dr_lenL fun _ => .v
  · cases e; exact dr_lenK fun _ => .v
  · cases e; exact dr_lenT fun _ => .v
  · split at e
    · rename_i h; cases e; exact dr_lenS h fun _ => .v
    · cases e
  · cases e
def pInt : List D → Option Sl
  | [.int i] => some (.v (.int i))
  | [.bl b] => some (.v (.int (if b then 1 else 0)))
  | _ => none
theorem pInt_ok : PrimOk G (wcall G.X (.type "int")) pInt := fun ds r e => by
  unfold pInt at e
  split at e
  · cases e; exact dr_int fun _ => .v
  · cases e; exact dr_intB fun _ => .v
  · cases e
def pAbs : List D → Option Sl
  | [.int i] => some (.v (.int (if i < 0 then -i else i)))
  | _ => none
theorem pAbs_ok : PrimOk G (wcall G.X (.builtin "abs")) pAbs := fun ds r e => by
  unfold pAbs at e
  split at e
  · cases e; exact dr_abs fun _ => .v
  · cases e
def asInts : List D → Option (List Int)
  | [] => some []
  | .int i :: r => (asInts r).map (i :: ·)
  | _ => none
theorem asInts_ok : ∀ {ds : List D} {ns : List Int}, asInts ds = some ns → ds = ns.map .int
  | [], _, h => by cases h; rfl
  | d :: r, ns, h => by
    cases d <;> simp [asInts] at h
    obtain ⟨ms, h1, rfl⟩ := h
    rw [asInts_ok h1]; rfl
theorem asInts_map : ∀ (ns : List Int), asInts (ns.map .int) = some ns
  | [] => rfl
  | n :: ns => by simp [asInts, asInts_map ns]
def asBls : List D → Option (List Bool)
  | [] => some []
  | .bl i :: r => (asBls r).map (i :: ·)
  | _ => none
theorem asBls_ok : ∀ {ds : List D} {ns : List Bool}, asBls ds = some ns → ds = ns.map .bl
  | [], _, h => by cases h; rfl
  | d :: r, ns, h => by
    cases d <;> simp [asBls] at h
    obtain ⟨ms, h1, rfl⟩ := h
    rw [asBls_ok h1]; rfl
theorem asBls_map : ∀ (ns : List Bool), asBls (ns.map .bl) = some ns
  | [] => rfl
  | n :: ns => by simp [asBls, asBls_map ns]
/-- the least, the greatest -/
def minI : List Int → Int
  | [] => 0
  | [a] => a
  | a :: b :: r => if minI (b :: r) < a then minI (b :: r) else a
def maxI : List Int → Int
  | [] => 0
  | [a] => a
  | a :: b :: r => if a < maxI (b :: r) then maxI (b :: r) else a
theorem minI_mem : ∀ {ns : List Int}, ns ≠ [] → minI ns ∈ ns
  | [], h => absurd rfl h
  | [a], _ => .head _
  | a :: b :: r, _ => by
    show (if minI (b :: r) < a then minI (b :: r) else a) ∈ a :: b :: r
    split
    · exact .tail _ (minI_mem (by simp))
    · exact .head _
theorem minI_le : ∀ {ns : List Int} {y : Int}, y ∈ ns → minI ns ≤ y
  | [a], _, h => by
    cases h with
    | head => exact Int.le_refl _
    | tail _ h => cases h
  | a :: b :: r, y, h => by
    show (if minI (b :: r) < a then minI (b :: r) else a) ≤ y
    cases h with
    | head => split <;> omega
    | tail _ h =>
      have := minI_le h
      split <;> omega
theorem maxI_mem : ∀ {ns : List Int}, ns ≠ [] → maxI ns ∈ ns
  | [], h => absurd rfl h
  | [a], _ => .head _
  | a :: b :: r, _ => by
    show (if a < maxI (b :: r) then maxI (b :: r) else a) ∈ a :: b :: r
    split
    · exact .tail _ (maxI_mem (by simp))
    · exact .head _
theorem maxI_le : ∀ {ns : List Int} {y : Int}, y ∈ ns → y ≤ maxI ns
  | [a], _, h => by
    cases h with
    | head => exact Int.le_refl _
    | tail _ h => cases h
  | a :: b :: r, y, h => by
    show y ≤ (if a < maxI (b :: r) then maxI (b :: r) else a)
    cases h with
    | head => split <;> omega
    | tail _ h =>
      have := maxI_le h
      split <;> omega
def pMin : List D → Option Sl
  | [.int i, .int j] => some (.v (.int (if j < i then j else i)))
  | [.lst as] =>
    match asInts as with
    | some (n :: ns) => some (.v (.int (minI (n :: ns))))
    | _ => none
  | _ => none
def pMax : List D → Option Sl
  | [.int i, .int j] => some (.v (.int (if j > i then j else i)))
  | [.lst as] =>
    match asInts as with
    | some (n :: ns) => some (.v (.int (maxI (n :: ns))))
    | _ => none
  | _ => none
theorem pMin_ok (hc : G.X.calm = true) : PrimOk G (wcall G.X (.builtin "min")) pMin := fun ds r e => by
  unfold pMin at e
  split at e
  · cases e; exact dr_min2 hc fun _ => .v
  · split at e
    · rename_i n ns h
      cases e
      rw [asInts_ok h]
      refine dr_minL hc (by simp) fun m h1 h2 π => ?_
      have : m = minI (n :: ns) := Int.le_antisymm (h2 _ (minI_mem (by simp))) (minI_le h1)
      rw [this]
      exact .v
    · cases e
  · cases e
theorem pMax_ok (hc : G.X.calm = true) : PrimOk G (wcall G.X (.builtin "max")) pMax := fun ds r e => by
  unfold pMax at e
  split at e
  · cases e; exact dr_max2 hc fun _ => .v
  · split at e
    · rename_i n ns h
      cases e
      rw [asInts_ok h]
      refine dr_maxL hc (by simp) fun m h1 h2 π => ?_
      have : m = maxI (n :: ns) := Int.le_antisymm (maxI_le h1) (h2 _ (maxI_mem (by simp)))
      rw [this]
      exact .v
    · cases e
  · cases e
def pSum : List D → Option Sl
  | [.lst as] => (asInts as).map fun ns => .v (.int ns.sum)
  | _ => none
theorem pSum_ok (hc : G.X.calm = true) : PrimOk G (wcall G.X (.builtin "sum")) pSum := fun ds r e => by
  unfold pSum at e
  split at e
  · rename_i as
    cases h : asInts as with
    | none => rw [h] at e; cases e
    | some ns => rw [h] at e; cases e; rw [asInts_ok h]; exact dr_sum hc fun _ => .v
  · cases e
def pAll : List D → Option Sl
  | [.lst as] => (asBls as).map fun ns => .v (.bl (ns.all id))
  | _ => none
def pAny : List D → Option Sl
  | [.lst as] => (asBls as).map fun ns => .v (.bl (ns.any id))
  | _ => none
theorem pAll_ok (hc : G.X.calm = true) : PrimOk G (wcall G.X (.builtin "all")) pAll := fun ds r e => by
  unfold pAll at e
  split at e
  · rename_i as
    cases h : asBls as with
    | none => rw [h] at e; cases e
    | some ns => rw [h] at e; cases e; rw [asBls_ok h]; exact dr_all hc fun _ => .v
  · cases e
theorem pAny_ok (hc : G.X.calm = true) : PrimOk G (wcall G.X (.builtin "any")) pAny := fun ds r e => by
  unfold pAny at e
  split at e
  · rename_i as
    cases h : asBls as with
    | none => rw [h] at e; cases e
    | some ns => rw [h] at e; cases e; rw [asBls_ok h]; exact dr_any hc fun _ => .v
  · cases e
def pList : List D → Option Sl
  | [.lst as] => some (.o 0 (.lst as))
  | [.tup as] => some (.o 0 (.lst as))
  | _ => none
theorem pList_ok : PrimOk G (wcall G.X (.type "list")) pList := fun ds r e => by
  unfold pList at e
  split at e
  · cases e; exact dr_listOf (.inl rfl) fun _ _ => .o
  · cases e; exact dr_listOf (.inr rfl) fun _ _ => .o
  · cases e
def pTuple : List D → Option Sl
  | [.lst as] => some (.v (.tup as))
  | [.tup as] => some (.v (.tup as))
  | _ => none
theorem pTuple_ok : PrimOk G (wcall G.X (.type "tuple")) pTuple := fun ds r e => by
  unfold pTuple at e
  split at e
  · cases e; exact dr_tupOf (.inl rfl) fun _ => .v
  · cases e; exact dr_tupOf (.inr rfl) fun _ => .v
  · cases e
/-! isinstance, of built-in classes -/
def tyB : D → Option String := tyD
/-- is a thing of class a one of class b, of the classes that the laws ask for -/
def kitQ (a b : String) : Option Bool :=
  match a, b with
  | "bool", "int" => some true
  | "int", "int" => some true
  | "str", "str" => some true
  | "bool", "bool" => some true
  | "list", "list" => some true
  | "tuple", "tuple" => some true
  | "NoneType", "int" => some false
  | "NoneType", "bool" => some false
  | "NoneType", "str" => some false
  | "NoneType", "list" => some false
  | "NoneType", "tuple" => some false
  | "int", "bool" => some false
  | "int", "str" => some false
  | "int", "list" => some false
  | "int", "tuple" => some false
  | "bool", "str" => some false
  | "bool", "list" => some false
  | "bool", "tuple" => some false
  | "str", "int" => some false
  | "str", "bool" => some false
  | "str", "list" => some false
  | "str", "tuple" => some false
  | "list", "int" => some false
  | "list", "bool" => some false
  | "list", "str" => some false
  | "list", "tuple" => some false
  | "tuple", "int" => some false
  | "tuple", "bool" => some false
  | "tuple", "str" => some false
  | "tuple", "list" => some false
  | _, _ => none
theorem kitQ_ok {a b : String} {r : Bool} (h : kitQ a b = some r) : kitB a b = some r := by
  unfold kitQ at h
  split at h <;> first | (cases h; decide +kernel) | cases h
def pIsi : List D → Option Sl
  | [x, .raw (.ty b)] =>
    match tyD x with
    | some a => (kitQ a b).map fun r => .v (.bl r)
    | none => none
  | [x, .tup [.raw (.ty b), .raw (.ty c)]] =>
    match tyD x with
    | some a =>
      match kitQ a b, kitQ a c with
      | some r1, some r2 => some (.v (.bl (r1 || r2)))
      | _, _ => none
    | none => none
  | _ => none
theorem pIsi_ok : PrimOk G (wcall G.X (.builtin "isinstance")) pIsi := fun ds r e => by
  unfold pIsi at e
  split at e
  · rename_i x b
    cases ha : tyD x with
    | none => rw [ha] at e; cases e
    | some a =>
      rw [ha] at e
      dsimp only at e
      cases h : kitQ a b with
      | none => rw [h] at e; cases e
      | some r => rw [h] at e; cases e; exact dr_isi ha (kitQ_ok h) fun _ => .v
  · rename_i x b c
    cases ha : tyD x with
    | none => rw [ha] at e; cases e
    | some a =>
      rw [ha] at e
      dsimp only at e
      split at e
      · rename_i r1 r2 h1 h2
        cases e
        exact dr_isi2 ha (kitQ_ok h1) (kitQ_ok h2) fun _ => .v
      · cases e
  · cases e
/-! ### items, slices -/
def pIx : List D → Option Sl
  | [.lst as, .int i] => (atI as i).map .v
  | [.tup as, .int i] => (atI as i).map .v
  | [.str z, .int i] => if z.length ≤ sizeLine then (atI z.cps.toList i).map fun c => .v (.str ⟨#[c]⟩) else none
  | _ => none
theorem pIx_ok : PrimOk G (R2l (wix G.X)) pIx := fun ds r e => by
  unfold pIx at e
  split at e
  · rename_i as i
    cases h : atI as i with
    | none => rw [h] at e; cases e
    | some d => rw [h] at e; cases e; exact dr_ixL h fun _ => .v
  · rename_i as i
    cases h : atI as i with
    | none => rw [h] at e; cases e
    | some d => rw [h] at e; cases e; exact dr_ixT h fun _ => .v
  · rename_i z i
    split at e
    · rename_i hl
      cases h : atI z.cps.toList i with
      | none => rw [h] at e; cases e
      | some d => rw [h] at e; cases e; exact dr_ixS hl h fun _ => .v
    · cases e
  · cases e
def pSlTo : List D → Option Sl
  | [.lst as, .int i] => some (.o 0 (.lst (cutD as none (some i))))
  | [.tup as, .int i] => some (.v (.tup (cutD as none (some i))))
  | _ => none
def pSlFr : List D → Option Sl
  | [.lst as, .int i] => some (.o 0 (.lst (cutD as (some i) none)))
  | [.tup as, .int i] => some (.v (.tup (cutD as (some i) none)))
  | _ => none
def pSlAl : List D → Option Sl
  | [.lst as] => some (.o 0 (.lst as))
  | _ => none
def pSlBt : List D → Option Sl
  | [.lst as, .int i, .int j] => some (.o 0 (.lst (cutD as (some i) (some j))))
  | [.tup as, .int i, .int j] => some (.v (.tup (cutD as (some i) (some j))))
  | _ => none
theorem pSlTo_ok : PrimOk G (RslTo G.X) pSlTo := fun ds r e => by
  unfold pSlTo at e
  split at e
  · cases e; exact dr_slToL fun _ _ => .o
  · cases e; exact dr_slToT fun _ => .v
  · cases e
theorem pSlFr_ok : PrimOk G (RslFr G.X) pSlFr := fun ds r e => by
  unfold pSlFr at e
  split at e
  · cases e; exact dr_slFrL fun _ _ => .o
  · cases e; exact dr_slFrT fun _ => .v
  · cases e
theorem pSlAl_ok : PrimOk G (RslAl G.X) pSlAl := fun ds r e => by
  unfold pSlAl at e
  split at e
  · cases e; exact dr_slAlL fun _ _ => .o
  · cases e
theorem pSlBt_ok : PrimOk G (RslBt G.X) pSlBt := fun ds r e => by
  unfold pSlBt at e
  split at e
  · cases e; exact dr_slBtL fun _ _ => .o
  · cases e; exact dr_slBtT fun _ => .v
  · cases e
def pBits : List D → Option Sl
  | [.int i] => some (.v (.int (Builtin.Int.intBits i : Nat)))
  | _ => none
theorem pBits_ok : PrimOk G (R1l wbits) pBits := fun ds r e => by
  unfold pBits at e
  split at e
  · cases e; exact dr_bits fun _ => .v
  · cases e
end
section
variable [CA] {π : Pi} {G : Gx} {pos : Pos}
/-- a[lo:hi] -/
def sl2F (p : List D → Option Sl) (a h : Sx → Re (List Ag)) : Sx → Re Sl := fun s => (a s).bind fun as s1 =>
  match as with
  | [a0, .v (.int i)] => (h s1).bind fun bs s2 =>
    match bs with
    | [.v (.int j)] => opF p (fun s => .ok [a0, .v (.int i), .v (.int j)] s) s2
    | _ => .no
  | _ => .no
theorem asked_at {as : List Ag} {R : List V → Hp → VK → Prop} {p : List D → Option Sl} (hp : PrimOk G R p) {δ δ1 : En} {s1 : Sx} {Φ : DV → En → Prop} (e1 : Ers π δ1 s1) (m1 : Sm δ δ1)
    (h : (opF p (fun s => .ok as s) s1).to (fun r s' => ∀ r' δ', Er π r' r → Ers π δ' s' → Sm δ δ' → Φ r' δ') (GX π G)) : Asked G R Φ as δ1 := by
  have h1 := Re.to_bind h
  have h1 : (match look s1 as with
      | none => (.no : Re Sl)
      | some (ds, b) =>
        match p ds with
        | none => .no
        | some r => if (b && !flatS r) = true then .no else .ok r s1).to (fun r s' => ∀ r' δ', Er π r' r → Ers π δ' s' → Sm δ δ' → Φ r' δ') (GX π G) := h1
  cases e : look s1 as with
  | none => rw [e] at h1; exact h1.elim
  | some z =>
    obtain ⟨ds, b⟩ := z
    rw [e] at h1
    dsimp only at h1
    cases e2 : p ds with
    | none => rw [e2] at h1; exact h1.elim
    | some r =>
      rw [e2] at h1
      dsimp only at h1
      refine ⟨ds, b, look_ok e1 e, dr_mono (hp ds r e2) fun r' er => ?_⟩
      by_cases hb : (b && !flatS r) = true
      · rw [if_pos hb] at h1; exact h1.elim
      · rw [if_neg hb] at h1
        refine ⟨fun hbt => ?_, h1 r' δ1 (er π) e1 m1⟩
        refine flatS_ok (er π) ?_
        subst hbt
        simpa using hb
theorem okE_sl2 {e lo hi : Expr} {p2 : Pos} {p : List D → Option Sl} {a h' : Sx → Re (List Ag)} (hp : PrimOk G (RslBt G.X) p) (ha : OkA π G [e, lo] a) (hh : OkA π G [hi] h') : OkE π G (.Subscript e (.Slice (some lo) (some hi) none p2) pos) (sl2F p a h') := .mk fun δ s Φ hs h =>
  de_slBt (ha δ s _ hs (Re.to_mono (Re.to_bind h) (fun as s1 h1 δ1 e1 m1 => by
    split at h1
    · rename_i a0 i
      refine ⟨a0, i, rfl, hh δ1 s1 _ e1 (Re.to_mono (Re.to_bind h1) (fun bs s2 h2 δ2 e2 m2 => ?_) fun x s2 h2 => h2)⟩
      split at h2
      · rename_i j
        exact ⟨j, rfl, asked_at hp e2 (m1.trans m2) h2⟩
      · exact h2.elim
    · exact h1.elim) fun x s1 h1 => h1))
/-- x.extend(e) -/
def extF (i : Nat) (a : Sx → Re (List Ag)) : Sx → Re Sl := fun s =>
  match s[i]? with
  | some (.o _ (.lst _)) => (a s).bind fun as s1 =>
    match as, s1[i]? with
    | [.v (.lst es)], some (.o t (.lst ds)) => if ds.length + es.length ≤ sizeLine then .ok (.v .non) (s1.set i (.o t (.lst (ds ++ es)))) else .no
    | _, _ => .no
  | _ => .no
theorem okE_ext {i : Nat} {y : Str} {py apos : Pos} {e : Expr} {g : Sx → Re (List Ag)} (hi : Nth G.X.N i y) (hg : OkA π G [e] g) (hv : Vis G.X.env.scope y := by first | exact .inl rfl | exact .inr (.inl rfl) | exact .inr (.inr rfl))
    (hd : (y == ("__debug__" : Str)) = false := by decide) (hcd : (y == ("__classdict__" : Str)) = false := by decide)
    (hbase : attributeBase (.Name y py) "extend" G.X.env (eval (.Name y py) G.X.env) = eval (.Name y py) G.X.env := by rfl)
    (hfew : ((backTo pos (starEach [e] G.X.env)).all (fun x => !x.1) && (backToKw pos (keywordEach [] G.X.env)).all (fun x => x.1.isSome) && decide ([e].length + ([] : List Keyword).length + (if ([] : List Keyword).isEmpty then 0 else 1) < 30)) = true := by rfl)
    (hline : (apos.endLine == pos.line) = true := by rfl) (hs' : starEach [e] G.X.env = (false, eval e G.X.env) :: starEach [] G.X.env := by rfl) (hplain : (backTo pos (starEach [] G.X.env)).any (·.1) = false := by rfl) :
    OkE π G (.Call (.Attribute (.Name y py) "extend" apos) [e] [] pos) (extF i g) := .mk fun δ s Φ hs h => by
  unfold extF at h
  split at h
  · rename_i t0 ds0 e0
    obtain ⟨z, hz, er⟩ := hs.get e0
    obtain ⟨q, hq⟩ := er.own
    subst hq
    refine de_extend hi hz (hg δ s _ hs (Re.to_mono (Re.to_bind h) (fun as s1 h1 δ1 e1 m1 => ?_) fun x s1 h1 => h1)) ⟨_, rfl⟩ hv hd hcd hbase hfew hline hs' hplain
    split at h1
    · rename_i d t ds e2
      obtain ⟨z1, hz1, er1⟩ := e1.get e2
      obtain ⟨q1, hq1⟩ := er1.own
      subst hq1
      obtain ⟨c0, hc0⟩ := m1 _ _ _ hz1
      rw [hz] at hc0
      cases hc0
      split at h1
      · rename_i hl
        refine ⟨d, ds, rfl, hz1, hl, h1 _ _ .v (e1.set i er1.cell) (m1.trans (Sm.set fun q c e => ?_))⟩
        cases e
        exact ⟨_, hz1⟩
      · exact h1.elim
    · exact h1.elim
  · exact h.elim
end
end Zf
namespace Zf
open PySem PySem.Spec L2 Zd
open PyProof.Rows (envOfC)
section
variable [CA] {π : Pi} {G : Gx} {pos : Pos}
/-! ### slots whose things nobody changes: held fast when they are set -/
def asgZ (i : Nat) (e : Sx → Re Sl) : Sx → Rs := fun s => (e s).st fun r s1 =>
  match fastS r with
  | some d => .nx (s1.set i (.v d))
  | none => .no
theorem okS_asgZ {i : Nat} {x : Str} {e : Expr} {pos' : Pos} {f : Sx → Re Sl} (hi : Nth G.X.N i x) (hN : G.X.N.Nodup) (he : OkE π G e f) (hx : Loc G.X.env.scope x := by first | exact .inl rfl | exact .inr rfl)
    (hs' : swapsWith e (some (.Name x pos')) pos.line G.X.env = pure false := by rfl) (hf : G.X.fn x = true ∨ G.X.env.scope.names.lookup x = some .local := by first | exact .inl rfl | exact .inr rfl) : OkS π G (.Assign [.Name x pos'] e pos) (asgZ i f) := .mk fun δ s E hs h =>
  ds_asg hi (de_fast (he δ s _ hs (Re.to_mono (Re.st_to h) (fun r s1 h1 r' δ1 er e1 m1 => by
    cases e2 : fastS r with
    | none => rw [e2] at h1; exact h1.elim
    | some d => rw [e2] at h1; exact ⟨d, fastS_ok er e2, h1 _ (e1.set i .v)⟩) fun x s1 h1 => h1))) hN hx hs' hf
theorem ds_after {δ : En} {E : DE} {st : Stmt} (h : ds G st δ { E with nx := fun δ' => E.nx δ' ∨ ∃ i p c d, δ'[i]? = some (.own p c) ∧ Fast (.own p c) d ∧ E.nx (δ'.set i (.val d)) }) : ds G st δ E := fun σ I H T x f =>
  h σ I H T x ⟨fun σ' δ' I' H' h b g => by
    rcases h with h | ⟨i, p, c, d, h1, h2, h3⟩
    · exact f.nx σ' _ I' H' h b g
    · obtain ⟨I2, y2, g2⟩ := env_frz b h1 h2
      exact f.nx σ' _ I2 H' h3 y2 (g.trans g2 b.sub), f.rt, f.bk, f.ct, f.xc⟩
theorem okS_asgLcZ {i : Nat} {y : Str} {py spos : Pos} {elt tg iter : Expr} {ifs : List Expr} {scope : Scope} {own : List (Str × Nat)} {js : List Nat} {g : D → Sx → Option Sx} {it : Sx → Re (List D)} {c : Option (Sx → Re Bool)} {e : Sx → Re Sl} {tt : TT} (hy : Nth G.X.N i y) (hN : G.X.N.Nodup) (hc : G.X.calm = true) (hg : ∀ s H C cl fp, OkG π (G.blk scope s H C cl fp) tg js g) (hi : OkI π G tg iter it) (ht : OkC π G scope ifs c tt) (he : ∀ s H C cl fp, Zh.Lv (G.X.blk s H scope (compEnvC scope cl C G.X.env) fp) → OkE π (G.blk scope s H C cl fp) elt e)
    (hyl : G.X.env.scope.names.lookup y = some .local := by rfl) (ok : blkC G.X.N G.X.env.scope scope own = true := by rfl) (hsw : swapsWith (.ListComp elt [⟨tg, iter, ifs, 0⟩] scope pos) (some (.Name y py)) spos.line G.X.env = pure true := by rfl) (hjs : ∀ j ∈ js, j ∈ own.map (·.2) := by decide) (hs' : ∀ x, foldedSetIterable iter G.X.env x = pure x := by exact fun _ => rfl) :
    OkS π G (.Assign [.Name y py] (.ListComp elt [⟨tg, iter, ifs, 0⟩] scope pos) spos) (asgZ i (lcF (own.map (·.2)) g it c e)) := .mk fun δ s E hs h =>
  ds_after (ds_asgLc (own := own) hy ht.tests (hi δ s _ hs (Re.to_mono (lc_go (δ := δ) (Re.st_to h)) (fun ds s1 ⟨hl, xs, s2, h2, h3⟩ δ1 e1 m1 => ⟨_, lc_ok hjs hg ht he e1 m1 hl h2 fun δ2 e2 m2 p => by
    by_cases hlt : i < δ2.length
    · refine .inr ⟨i, p, .lst xs, .lst xs, by rw [List.getElem?_set_self hlt], .lst, ?_⟩
      rw [List.set_set]
      exact h3 _ (e2.set i .v)
    · refine .inl ?_
      have hll : s2.length = δ2.length := e2.len.symm
      have h4 := h3
      rw [List.set_eq_of_length_le (by omega)]
      refine h4 δ2 ?_
      rw [List.set_eq_of_length_le (by omega)]
      exact e2⟩) fun x s1 h1 => h1)) hc hN hyl (blkOk_by ok) hsw hs')
/-- x[k], x a list of one's own -/
def ixO (i : Nat) (g : Sx → Re (List Ag)) (f : Sx → Re Sl) : Sx → Re Sl := fun s =>
  match s[i]? with
  | some (.o _ (.lst _)) => (g s).bind fun as s1 =>
    match as, s1[i]? with
    | [.v (.int k)], some (.o _ (.lst ds)) =>
      match atI ds k with
      | some d => .ok (.v d) s1
      | none => .no
    | _, _ => .no
  | _ => f s
theorem okE_ixO {i : Nat} {x : Str} {px : Pos} {b : Expr} {g : Sx → Re (List Ag)} {f : Sx → Re Sl} (hi : Nth G.X.N i x) (hg : OkA π G [b] g) (hf : OkE π G (.Subscript (.Name x px) b pos) f) (hv : Vis G.X.env.scope x := by first | exact .inl rfl | exact .inr (.inl rfl) | exact .inr (.inr rfl))
    (hd : (x == ("__debug__" : Str)) = false := by decide) (hcd : (x == ("__classdict__" : Str)) = false := by decide) (hp : PlainIx b := by exact fun _ _ => rfl) : OkE π G (.Subscript (.Name x px) b pos) (ixO i g f) := .mk fun δ s Φ hs h => by
  unfold ixO at h
  split at h
  · rename_i t0 ds0 e0
    obtain ⟨z, hz, er⟩ := hs.get e0
    obtain ⟨q, hq⟩ := er.own
    subst hq
    refine de_ixO hi hz (hg δ s _ hs (Re.to_mono (Re.to_bind h) (fun as s1 h1 δ1 e1 m1 => ?_) fun x s1 h1 => h1)) hv hd hcd hp
    split at h1
    · rename_i k t ds e2
      obtain ⟨z1, hz1, er1⟩ := e1.get e2
      obtain ⟨q1, hq1⟩ := er1.own
      subst hq1
      obtain ⟨c0, hc0⟩ := m1 _ _ _ hz1
      rw [hz] at hc0
      cases hc0
      split at h1
      · rename_i d hat
        exact ⟨k, ds, d, .v .nil, hz1, hat, h1 _ _ .v e1 m1⟩
      · exact h1.elim
    · exact h1.elim
  · exact hf δ s Φ hs h
/-- a < b < c -/
def chF (p p' : List D → Option Sl) (a c : Sx → Re (List Ag)) : Sx → Re Sl := fun s => (a s).bind fun as s1 =>
  match as with
  | [.v x, .v y] =>
    match p [x, y] with
    | some (.v (.bl true)) => (c s1).bind fun bs s2 =>
      match bs with
      | [.v z] =>
        match p' [y, z] with
        | some (.v d) => .ok (.v d) s2
        | _ => .no
      | _ => .no
    | some (.v (.bl false)) => .ok (.v (.bl false)) s1
    | _ => .no
  | _ => .no
theorem chain_h {op op' : CmpOp} {a b c : Expr} {p p' : List D → Option Sl} {g g' : Sx → Re (List Ag)} (hp : PrimOk G (R2l (wop G.X (compareOp op))) p) (hp' : PrimOk G (R2l (wop G.X (compareOp op'))) p') (ha : OkA π G [a, b] g) (hc : OkA π G [c] g')
    {δ : En} {s : Sx} {Φ : DV → En → Prop} (hs : Ers π δ s) (h : (chF p p' g g' s).to (fun r s' => ∀ r' δ', Er π r' r → Ers π δ' s' → Sm δ δ' → Φ r' δ') (GX π G)) :
    dgs G [a, b] δ fun as δ1 => ∃ x y, as = [.v x, .v y] ∧ DR G.X.K (R2l (wop G.X (compareOp op))) [x, y] fun r => ∃ k, r = .val (.bl k) ∧
      if k = true then dgs G [c] δ1 fun as δ2 => ∃ z, as = [.v z] ∧ DR G.X.K (R2l (wop G.X (compareOp op'))) [y, z] fun r => Φ r δ2 else Φ (.val (.bl false)) δ1 :=
  (ha δ s _ hs (Re.to_mono (Re.to_bind h) (fun as s1 h1 δ1 e1 m1 => by
    split at h1
    · rename_i x y
      refine ⟨x, y, rfl, ?_⟩
      split at h1
      · rename_i e2
        refine dr_mono (hp _ _ e2) fun r' er => ?_
        cases (er π).val
        refine ⟨true, rfl, ?_⟩
        rw [if_pos rfl]
        refine hc δ1 s1 _ e1 (Re.to_mono (Re.to_bind h1) (fun bs s2 h2 δ2 e3 m2 => ?_) fun x s2 h2 => h2)
        split at h2
        · rename_i z
          refine ⟨z, rfl, ?_⟩
          split at h2
          · rename_i d e4
            refine dr_mono (hp' _ _ e4) fun r' er => ?_
            exact h2 _ _ (er π) e3 (m1.trans m2)
          · exact h2.elim
        · exact h2.elim
      · rename_i e2
        refine dr_mono (hp _ _ e2) fun r' er => ?_
        cases (er π).val
        refine ⟨false, rfl, ?_⟩
        rw [if_neg Bool.false_ne_true]
        exact h1 _ _ .v e1 m1
      · exact h1.elim
    · exact h1.elim) fun x s1 h1 => h1))
theorem okE_chain {op op' : CmpOp} {a b c : Expr} {p p' : List D → Option Sl} {g g' : Sx → Re (List Ag)} (hp : PrimOk G (R2l (wop G.X (compareOp op))) p) (hp' : PrimOk G (R2l (wop G.X (compareOp op'))) p') (ha : OkA π G [a, b] g) (hc : OkA π G [c] g')
    (hm : lastMarks [op, op'] [b, c] = false := by with_unfolding_all rfl) : OkE π G (.Compare a [op, op'] [b, c] pos) (chF p p' g g') := .mk fun δ s Φ hs h => de_chain (chain_h hp hp' ha hc hs h) hm
theorem okT_chain {op op' : CmpOp} {a b c : Expr} {p p' : List D → Option Sl} {g g' : Sx → Re (List Ag)} (hp : PrimOk G (R2l (wop G.X (compareOp op))) p) (hp' : PrimOk G (R2l (wop G.X (compareOp op'))) p') (ha : OkA π G [a, b] g) (hc : OkA π G [c] g')
    (hm : lastMarks [op, op'] [b, c] = false := by with_unfolding_all rfl) : OkT π G (.Compare a [op, op'] [b, c] pos) (tVal (chF p p' g g')) := .mk fun δ s Φ hs h => dt_chain (chain_h (Φ := fun r δ1 => ∃ k, r = .val (.bl k) ∧ Φ k δ1) hp hp' ha hc hs (Re.to_mono (Re.to_bind h) (fun r s1 h1 r' δ1 er e1 m1 => by
  cases r with
  | no => exact h1.elim
  | x _ => exact h1.elim
  | o t c => exact h1.elim
  | v d =>
    cases er.val
    cases d <;> first | exact h1.elim | exact ⟨_, rfl, h1 δ1 e1 m1⟩) fun x s1 h1 => h1)) hm
/-! ### constants of the top -/
theorem gv_int {x : Str} {i : Int} (h : ∃ t, G.X.mg x = some (.int i t)) : Gv G x (.int i) := by
  obtain ⟨t, h⟩ := h
  exact ⟨.int i, _, h, ⟨t, rfl⟩, fun _ => rfl⟩
theorem gv_str {x : Str} {z : Str} (h : ∃ t, G.X.mg x = some (.str z t)) : Gv G x (.str z) := by
  obtain ⟨t, h⟩ := h
  exact ⟨.str z, _, h, ⟨t, rfl⟩, fun _ => rfl⟩
end
/-! ### nothing is promised at depth 0 -/
theorem fnP0 [CA] {P : Program} {w : World} {K : PySem.W.Frag} {mg : Str → Option Value} {base : Heap} {k n : Nat} {f : Addr} {fd : FuncData} {ps : List Str} (h : ps.length = n := by rfl) : FnOk P w K mg base (L2N.CX P w) k f fd ps (spP K n (specP fun _ => .no)) :=
  ⟨fun vs H Q E g => by rw [h]; exact g.1, fun A outer s H args us vs Q E _ _ _ _ g => by
    obtain ⟨_, I, ds, Ψ, Ξ, _, _, hS, _⟩ := g
    exact hS.elim⟩
theorem fnM0 [CA] {P : Program} {w : World} {K : PySem.W.Frag} {mg : Str → Option Value} {base : Heap} {k n : Nat} {f : Addr} {fd : FuncData} {ps : List Str} (h : ps.length = n := by rfl) : FnOk P w K mg base (L2N.CX P w) k f fd ps (spM K n (specM fun _ _ => .no)) :=
  ⟨fun vs H Q E g => by rw [h]; exact g.1, fun A outer s H args us vs Q E _ _ _ _ g => by
    obtain ⟨_, p, vs', I, c, ds, Ψ, Ξ, _, _, _, _, _, hS, _⟩ := g
    exact hS.elim⟩
end Zf
/-! Exceptions of own classes: raised, caught, read. -/
namespace Zf
open PySem PySem.Spec L2 Zd
open PyProof.Rows (envOfC)
/-- what is said of the classes: sub tells who is under whom (a built-in class by its number), fo the field of an own class -/
structure XS [CA] (P : Program) (w : World) (K : PySem.W.Frag) (mg : Str → Option Value) (base : Heap) (n : Nat) (nm : Nat → Str) (cv : Nat → Value) (sub : Nat → Nat → Option Bool) (fo : Nat → Option Str) : Prop where
  gl : ∀ c, c < n → mg (nm c) = some (cv c)
  err : ∀ c f, fo c = some f → ErrC P w K mg base (nm c) f (CA.at_ c) ∧ XfC K (CA.at_ c) ∧ PySem.W.findIn K (.ref (CA.at_ c)) f = some none
  exc : ∀ c c' b, sub c c' = some b → ExcC K (CA.at_ c) ∧ PySem.W.exmOne K (.ref (CA.at_ c)) (cv c') = some b ∧ PySem.W.kitOne K (.ref (CA.at_ c)) (cv c') = some b
def noXl (x : Sl) : Bool :=
  match x with
  | .x _ => false
  | _ => true
def noX (s : Sx) : Bool := s.all noXl
section
variable [CA]
theorem Er.re {π π' : Pi} {x : DV} {y : Sl} (h : Er π x y) (hp : π'.p1 = π.p1) (hn : noXl y = true) : Er π' x y := by
  cases h with
  | no => exact .no
  | v => exact .v
  | o => exact .o
  | t => rw [← hp]; exact .t
  | x => cases hn
theorem Ers.re {π π' : Pi} : ∀ {δ : En} {s : Sx}, Ers π δ s → π'.p1 = π.p1 → noX s = true → Ers π' δ s
  | _, _, .nil, _, _ => .nil
  | _, _, .cons a r, hp, hn => by
    have hn : (noXl _ && noX _) = true := hn
    rw [Bool.and_eq_true] at hn
    exact .cons (a.re hp hn.1) (r.re hp hn.2)
end
/-- behind a suite: slot i is taken away -/
def clnS (oi : Option Nat) (s : Sx) : Sx :=
  match oi with
  | none => s
  | some i => s.set i .no
def cln (oi : Option Nat) (m : Rs) : Rs :=
  match m with
  | .nx s => if noX (clnS oi s) = true then .nx (clnS oi s) else .no
  | .bk s => if noX (clnS oi s) = true then .bk (clnS oi s) else .no
  | .ct s => if noX (clnS oi s) = true then .ct (clnS oi s) else .no
  | .rt r s => if (noXl r && noX (clnS oi s)) = true then .rt r (clnS oi s) else .no
  | _ => .no
abbrev Hd := Nat × Option Nat × (Sx → Rs)
def hGo (sub : Nat → Nat → Option Bool) (x : Xn) : List Hd → Sx → Rs
  | [], s => .ex x s
  | (c, oi, f) :: r, s =>
    match sub x.c c with
    | some true => if noX s = true then cln oi (f (match oi with | none => s | some i => s.set i (.x x))) else .no
    | some false => hGo sub x r s
    | none => .no
def tryF (sub : Nat → Nat → Option Bool) (b : Sx → Rs) (hs : List Hd) : Sx → Rs := fun s =>
  match b s with
  | .ex x s1 => hGo sub x hs s1
  | o => o
section
variable [CA] {π : Pi} {G : Gx} {pos : Pos}
/-! ### raise -/
def rsF (c : Nat) (fld : Str) (a : Sx → Re (List Ag)) : Sx → Rs := fun s => (a s).st fun as s1 =>
  match as with
  | [.v d] => .ex ⟨c, [fld], [d]⟩ s1
  | _ => .no
theorem okS_raise {k c : Nat} {x fld : Str} {e : Expr} {p pos' : Pos} {a : Sx → Re (List Ag)} (M : ErrC G.X.prog G.X.w G.X.K G.X.mg G.X.base x fld (CA.at_ c)) (hr : Room k G.X.A) (hk : 2 ≤ k) (hc : G.X.calm = true) (tk : L2N.Takes G.X G.W) (ha : OkA π G [e] a) (hg : Gl G.X x := by rfl)
    (hp : PA G.X [e] (wes G.X [e]) := by repeat (first | exact pa_nil | refine pa_cons PE.of ?_)) (hdb : (x == ("__debug__" : Str)) = false := by decide) (he : starEach [e] G.X.env = (false, eval e G.X.env) :: starEach [] G.X.env := by rfl) (hpl : (backTo pos' (starEach [] G.X.env)).any (·.1) = false := by rfl) :
    OkS π G (.Raise (some (.Call (.Name x p) [e] [] pos')) none pos) (rsF c fld a) := .mk fun δ s E hs h =>
  ds_raiseX M hr hk hc tk (ha δ s _ hs (Re.to_mono (Re.st_to h) (fun as s1 h1 δ1 e1 m1 => by
    split at h1
    · rename_i d
      exact ⟨d, rfl, h1 δ1 e1⟩
    · exact h1.elim) fun x s1 h1 => h1)) hg hp hdb he hpl
/-! ### try -/
def unslO (oi : Option Nat) (E : DE) : DE :=
  match oi with
  | none => E
  | some i => unslE i E
theorem any_no {π : Pi} : ∀ {δ : En} {s : Sx} (i : Nat), Ers π δ s → Ers π δ (s.set i .no)
  | _, _, _, .nil => .nil
  | _, _, 0, .cons _ r => .cons .no r
  | _, _, i + 1, .cons a r => .cons a (any_no i r)
theorem cln_to {π' : Pi} {G' : Gx} {oi : Option Nat} {m : Rs} {E : DE} (hp : π'.p1 = π.p1) (h : (cln oi m).to π G E) : m.to π' G' (unslO oi E) := by
  cases m with
  | nx s =>
    intro δ e
    by_cases hn : noX (clnS oi s) = true
    · have h : (if noX (clnS oi s) = true then Rs.nx (clnS oi s) else .no).to π G E := h
      rw [if_pos hn] at h
      cases oi with
      | none => exact h _ (e.re hp.symm hn)
      | some i => exact h _ ((e.set i (.no (x := .no))).re hp.symm hn)
    · have h : (if noX (clnS oi s) = true then Rs.nx (clnS oi s) else .no).to π G E := h
      rw [if_neg hn] at h
      exact h.elim
  | bk s =>
    intro δ e
    by_cases hn : noX (clnS oi s) = true
    · have h : (if noX (clnS oi s) = true then Rs.bk (clnS oi s) else .no).to π G E := h
      rw [if_pos hn] at h
      cases oi with
      | none => exact h _ (e.re hp.symm hn)
      | some i => exact h _ ((e.set i (.no (x := .no))).re hp.symm hn)
    · have h : (if noX (clnS oi s) = true then Rs.bk (clnS oi s) else .no).to π G E := h
      rw [if_neg hn] at h
      exact h.elim
  | ct s =>
    intro δ e
    by_cases hn : noX (clnS oi s) = true
    · have h : (if noX (clnS oi s) = true then Rs.ct (clnS oi s) else .no).to π G E := h
      rw [if_pos hn] at h
      cases oi with
      | none => exact h _ (e.re hp.symm hn)
      | some i => exact h _ ((e.set i (.no (x := .no))).re hp.symm hn)
    · have h : (if noX (clnS oi s) = true then Rs.ct (clnS oi s) else .no).to π G E := h
      rw [if_neg hn] at h
      exact h.elim
  | rt r s =>
    intro r' δ er e
    by_cases hn : (noXl r && noX (clnS oi s)) = true
    · have h : (if (noXl r && noX (clnS oi s)) = true then Rs.rt r (clnS oi s) else .no).to π G E := h
      rw [if_pos hn] at h
      rw [Bool.and_eq_true] at hn
      have er' : Er π r' r := er.re hp.symm hn.1
      cases oi with
      | none => exact h r' _ er' (e.re hp.symm hn.2)
      | some i => exact h r' _ er' ((any_no i e).re hp.symm hn.2)
    · have h : (if (noXl r && noX (clnS oi s)) = true then Rs.rt r (clnS oi s) else .no).to π G E := h
      rw [if_neg hn] at h
      exact h.elim
  | ex x s => exact False.elim h
  | no => exact False.elim h
inductive OkH (π : Pi) (G : Gx) (cv : Nat → Value) : List ExceptHandler → List Hd → Prop where
  | nil : OkH π G cv [] []
  | bare {x : Str} {c : Nat} {s0 : Stmt} {su : List Stmt} {q1 q2 : Pos} {hs : List ExceptHandler} {l : List Hd} {f : Sx → Rs} (nm : Names G.X x (cv c))
      (ok : ∀ a oe pn dd xn, Caught (xo xn) a oe (some dd) → OkB ⟨π.p1, a, dd, xn⟩ (G.suite a oe pn) (s0 :: su) f) (r : OkH π G cv hs l) :
      OkH π G cv (.ExceptHandler (some (.Name x q1)) none (s0 :: su) q2 :: hs) ((c, none, f) :: l)
  | named {x n : Str} {c i : Nat} {s0 : Stmt} {su : List Stmt} {q1 q2 : Pos} {hs : List ExceptHandler} {l : List Hd} {f : Sx → Rs} (nm : Names G.X x (cv c)) (at_ : Nth G.X.N i n) (lo : G.X.env.kindOf n = some .local)
      (ok : ∀ a oe pn dd xn, Caught (xo xn) a oe (some dd) → OkB ⟨π.p1, a, dd, xn⟩ (G.suite a oe pn) (s0 :: su) f) (r : OkH π G cv hs l) :
      OkH π G cv (.ExceptHandler (some (.Name x q1)) (some n) (s0 :: su) q2 :: hs) ((c, some i, f) :: l)
theorem OkH.hand {cv : Nat → Value} {sub : Nat → Nat → Option Bool} (hx : ∀ c c' b, sub c c' = some b → PySem.W.exmOne G.X.K (.ref (CA.at_ c)) (cv c') = some b) {E : DE} {hs : List ExceptHandler} {l : List Hd} (h : OkH π G cv hs l) :
    ∃ Q, Hand G E hs Q ∧ ∀ x s1 δ', Ers π δ' s1 → (hGo sub x l s1).to π G E → Q (xo x) δ' := by
  induction h with
  | nil => exact ⟨G.Ξ, .nil, fun x s1 δ' e h => h δ' e⟩
  | @bare x c s0 su q1 q2 hs l f nm ok r ih =>
    obtain ⟨Q, hQ, go⟩ := ih
    refine ⟨_, .bare nm hQ, fun xn s1 δ' e h => ?_⟩
    unfold hGo at h
    cases e1 : sub xn.c c with
    | none => rw [e1] at h; exact h.elim
    | some b =>
      rw [e1] at h
      refine ⟨b, hx _ _ _ e1, ?_⟩
      cases b with
      | false => rw [if_neg Bool.false_ne_true]; exact go xn s1 δ' e h
      | true =>
        rw [if_pos rfl]
        intro a oe d pn cx
        dsimp only at h
        split at h
        · rename_i hn
          obtain ⟨dd, rfl⟩ : ∃ dd, d = some dd := cx.d
          exact (ok a oe pn dd xn cx).run δ' s1 _ (e.re rfl hn) (cln_to (π := π) (G := G) (oi := none) (E := E) rfl h)
        · exact h.elim
  | @named x n c i s0 su q1 q2 hs l f nm at_ lo ok r ih =>
    obtain ⟨Q, hQ, go⟩ := ih
    refine ⟨_, .named nm at_ lo hQ, fun xn s1 δ' e h => ?_⟩
    unfold hGo at h
    cases e1 : sub xn.c c with
    | none => rw [e1] at h; exact h.elim
    | some b =>
      rw [e1] at h
      refine ⟨b, hx _ _ _ e1, ?_⟩
      cases b with
      | false => rw [if_neg Bool.false_ne_true]; exact go xn s1 δ' e h
      | true =>
        rw [if_pos rfl]
        intro a oe d pn cx
        dsimp only at h
        split at h
        · rename_i hn
          obtain ⟨dd, rfl⟩ : ∃ dd, d = some dd := cx.d
          refine (ok a oe pn dd xn cx).run _ (s1.set i (.x xn)) _ ?_ (cln_to (π := π) (G := G) (oi := some i) (E := E) rfl h)
          exact Ers.set (π := ⟨π.p1, a, dd, xn⟩) i (e.re rfl hn) (Er.x (π := ⟨π.p1, a, dd, xn⟩))
        · exact h.elim
theorem okS_try {cv : Nat → Value} {sub : Nat → Nat → Option Bool} {body : List Stmt} {h0 : ExceptHandler} {hs : List ExceptHandler} {l : List Hd} {b : Sx → Rs} (hx : ∀ c c' b, sub c c' = some b → PySem.W.exmOne G.X.K (.ref (CA.at_ c)) (cv c') = some b)
    (st : G.X.stack = G.X.env :: G.X.outer) (fr : G.X.env.frame = some G.X.env.locals) (nd : G.X.N.Nodup) (tk : L2N.Takes G.X G.W) (hh : OkH π G cv (h0 :: hs) l)
    (hb : ∀ (W : WX) (pn : List (Addr × Obj)) (xe : Value → Shared → Prop) (Q : Exn → En → Prop), L2N.Takes (G.X.tr pn xe) W → PassesOwn (model G.X.prog G.X.w) G.X.A G.X.env xe → OkB π ⟨G.X.tr pn xe, W, Q⟩ body b) : OkS π G (.Try body (h0 :: hs) [] [] pos) (tryF sub b l) := .mk fun δ s E hs' h => by
  obtain ⟨Q, hQ, go⟩ := hh.hand hx (E := E)
  refine ds_try hQ st fr nd tk fun W pn xe t p => (hb W pn xe Q t p).run δ s E hs' ?_
  unfold tryF at h
  cases e : b s with
  | nx s1 => rw [e] at h; exact h
  | rt r s1 => rw [e] at h; exact h
  | bk s1 => rw [e] at h; exact h
  | ct s1 => rw [e] at h; exact h
  | no => rw [e] at h; exact h
  | ex x s1 => rw [e] at h; exact fun δ' a => go x s1 δ' a h
theorem gv_cls {x : Str} {C : Addr} (h : G.X.mg x = some (.ref C)) : Gv G x (.raw (.ref C)) := ⟨.ref C, _, h, rfl, fun _ => rfl⟩
/-! ### the caught exception is read -/
def xfF (fo : Nat → Option Str) (i : Nat) (n : Str) : Sx → Re Sl := fun s =>
  match s[i]? with
  | some (.x e) => if fo e.c = some n then
      match (e.ks.zip e.ds).lookup n with
      | some d => .ok (.v d) s
      | none => .no
    else .no
  | _ => .no
theorem Er.xn {x : DV} {e : Xn} (h : Er π x (.x e)) : e = π.xn ∧ x = .val (.xex π.xa π.xd π.xn.ks π.xn.ds) := by
  cases h; exact ⟨rfl, rfl⟩
theorem okE_xf {P : Program} {w : World} {K : PySem.W.Frag} {mg : Str → Option Value} {base : Heap} {n' : Nat} {nm : Nat → Str} {cv : Nat → Value} {sub : Nat → Nat → Option Bool} {fo : Nat → Option Str} {oe : Obj} {pn : List (Addr × Obj)} {i : Nat} {x n : Str} {p : Pos} (X : XS P w K mg base n' nm cv sub fo) (hK : G.X.K = K) (hi : Nth G.X.N i x) (c : Caught (xo π.xn) π.xa oe (some π.xd))
    (hv : Vis G.X.env.scope x := by first | exact .inl rfl | exact .inr (.inl rfl) | exact .inr (.inr rfl)) (h1 : (x == ("__debug__" : Str)) = false := by decide) (h2 : (x == ("__classdict__" : Str)) = false := by decide)
    (hb : attributeBase (.Name x p) n G.X.env (eval (.Name x p) G.X.env) = eval (.Name x p) G.X.env := by rfl) : OkE π (G.suite π.xa oe pn) (.Attribute (.Name x p) n pos) (xfF fo i n) := .mk fun δ s Φ hs h => by
  unfold xfF at h
  cases e0 : s[i]? with
  | none => rw [e0] at h; exact h.elim
  | some y =>
    rw [e0] at h
    obtain ⟨z, hz, er⟩ := hs.get e0
    cases y with
    | no => exact h.elim
    | v d => exact h.elim
    | o t c => exact h.elim
    | x e =>
      obtain ⟨rfl, rfl⟩ := er.xn
      dsimp only at h
      split at h
      · rename_i hf
        obtain ⟨_, f2, f3⟩ := X.err _ _ hf
        split at h
        · rename_i d hd
          exact de_xf hi hz c (hK ▸ f2) (hK ▸ f3) hd (h _ _ .v hs Sm.refl) hv h1 h2 hb
        · exact h.elim
      · exact h.elim
def isxF (sub : Nat → Nat → Option Bool) (i c : Nat) : Sx → Re Sl := fun s =>
  match s[i]? with
  | some (.x e) =>
    match sub e.c c with
    | some b => .ok (.v (.bl b)) s
    | none => .no
  | _ => .no
theorem okE_isx {P : Program} {w : World} {K : PySem.W.Frag} {mg : Str → Option Value} {base : Heap} {n' : Nat} {nm : Nat → Str} {cv : Nat → Value} {sub : Nat → Nat → Option Bool} {fo : Nat → Option Str} {oe : Obj} {pn : List (Addr × Obj)} {i c : Nat} {x y : Str} {p q q2 : Pos} {v : V} (X : XS P w K mg base n' nm cv sub fo) (hK : G.X.K = K) (hi : Nth G.X.N i x) (cx : Caught (xo π.xn) π.xa oe (some π.xd))
    (hm : G.X.mg "isinstance" = none) (hu : OkE π (G.suite π.xa oe pn) (.Name y q2) (cst (.raw v))) (hcv : ∀ u, RelV v u → u = cv c) (hv : Vis G.X.env.scope x := by first | exact .inl rfl | exact .inr (.inl rfl) | exact .inr (.inr rfl)) (h1 : (x == ("__debug__" : Str)) = false := by decide) (h2 : (x == ("__classdict__" : Str)) = false := by decide)
    (hg : Gl G.X "isinstance" := by rfl) (hbt : bootBuiltins "isinstance" = some (.builtin "isinstance") := by decide +kernel) : OkE π (G.suite π.xa oe pn) (.Call (.Name "isinstance" q) [.Name x p, .Name y q2] [] pos) (isxF sub i c) := .mk fun δ s Φ hs h => by
  unfold isxF at h
  cases e0 : s[i]? with
  | none => rw [e0] at h; exact h.elim
  | some y =>
    rw [e0] at h
    obtain ⟨z, hz, er⟩ := hs.get e0
    cases y with
    | no => exact h.elim
    | v d => exact h.elim
    | o t c => exact h.elim
    | x e =>
      obtain ⟨rfl, rfl⟩ := er.xn
      dsimp only at h
      split at h
      · rename_i b hb
        obtain ⟨f1, f2, f3⟩ := X.exc _ _ _ hb
        refine de_callB (id := "isinstance") hm hbt ?_ hg (pa_cons PE.of (pa_cons PE.of pa_nil))
        refine dgs_cons (de_val hi hz ⟨_, .val, dgs_cons (hu.run δ s _ hs fun r' δ' er' ers' sm' => ⟨.raw v, ?_, dgs_nil ⟨_, false, .v (.v .nil), ?_⟩⟩)⟩ hv h1 h2)
        · cases er'.val; exact .val
        · refine dr_mono (dr_isx (X := G.X) (Ψ := fun r => r = .val (.bl b)) cx (hK ▸ f1) hcv (hK ▸ f3) rfl) fun r hr => ?_
          subst hr
          exact ⟨(fun z => Bool.noConfusion z), h _ _ .v ers' sm'⟩
      · exact h.elim
end
end Zf
/-! The end: what the top leaves, told by checks over the written part. -/
namespace Zf
open PySem PySem.Spec L2 Zd
/-! ### the checks -/
abbrev Ck := PySem.W.Frag → Bool
def oexB (C : PySem.W.Frag → Addr) : Ck := fun K =>
  (match K.lookup (C K) with
  | some ⟨.type "type", _, .cls cd, sl⟩ => (match cd.mro, sl.toList with
    | .ref C' :: bm, [_, _, _, _, some (.builtin n), _] => C' == C K && n == "ValueError.__new__" && !cd.hasDel && cd.hasDict && PySem.HandSPX.refsVE bm
    | _, _ => false)
  | _ => false) && (decide (PySem.W.findIn K (.ref (C K)) "__setattr__" = some (some (.builtin "object.__setattr__"))) && (decide (PySem.W.subIn K (.ref (C K)) (.type "BaseException") = some true) && (decide (PySem.W.typeIn K (.ref (C K)) = some (.type "type")) && PySem.W.keepIn K (.ref (C K)))))
theorem oexB_ok {C : PySem.W.Frag → Addr} {K : PySem.W.Frag} (h : oexB C K = true) : OexC K (C K) := by
  unfold oexB at h
  obtain ⟨q, h⟩ := He.ba h
  obtain ⟨h2, h⟩ := He.ba h
  obtain ⟨h3, h⟩ := He.ba h
  obtain ⟨h4, h5⟩ := He.ba h
  refine ⟨?_, of_decide_eq_true h2, of_decide_eq_true h3, of_decide_eq_true h4, h5⟩
  split at q
  · rename_i dd cd sl ho
    split at q
    · rename_i C' bm k0 k1 k2 k3 n k5 hm hs
      simp only [Bool.and_eq_true, beq_iff_eq, Bool.not_eq_true'] at q
      obtain ⟨⟨⟨⟨rfl, rfl⟩, hdel⟩, hdd⟩, ht⟩ := q
      obtain ⟨nm, bs, mro, ns, qn, hd, sn, sub, ab, col, del⟩ := cd
      dsimp only at hm hdel hdd
      subst hm hdel hdd
      have hsl : sl = #[k0, k1, k2, k3, some (.builtin "ValueError.__new__"), k5] := by
        obtain ⟨l⟩ := sl
        simp only at hs
        rw [hs]
      subst hsl
      exact ⟨nm, qn, ns, bs, bm, sn, sub, ab, col, dd, k0, k1, k2, k3, k5, ho, ht⟩
    · cases q
  · cases q
def excB (C : PySem.W.Frag → Addr) : Ck := fun K =>
  decide (PySem.W.findIn K (.ref (C K)) "__getattribute__" = some (some (.builtin "BaseException.__getattribute__"))) && (decide (PySem.W.findIn K (.ref (C K)) "__getattr__" = some none) && (decide (PySem.W.subIn K (.ref (C K)) (.type "BaseException") = some true) && (PySem.W.hasDictIn K (C K) &&
  (decide (PySem.W.findIn K (.ref (C K)) "__class__" = some (some (.builtin "object.__class__"))) && (decide (PySem.W.specialIn K (.builtin "object.__class__") "__get__" = some (some (.builtin "getset_descriptor.__get__"))) && (decide (PySem.W.takesIn K (.builtin "object.__class__") = some true) && decide (PySem.W.mroIn K (C K) (.type "object") = some true)))))))
theorem excB_ok {C : PySem.W.Frag → Addr} {K : PySem.W.Frag} (h : excB C K = true) : ExcC K (C K) ∧ XfC K (C K) := by
  unfold excB at h
  obtain ⟨h1, h⟩ := He.ba h
  obtain ⟨h2, h⟩ := He.ba h
  obtain ⟨h3, h⟩ := He.ba h
  obtain ⟨h4, h⟩ := He.ba h
  obtain ⟨h5, h⟩ := He.ba h
  obtain ⟨h6, h⟩ := He.ba h
  obtain ⟨h7, h8⟩ := He.ba h
  exact ⟨⟨of_decide_eq_true h1, of_decide_eq_true h2, of_decide_eq_true h3, h4, of_decide_eq_true h5, of_decide_eq_true h6, of_decide_eq_true h7, of_decide_eq_true h8⟩, ⟨of_decide_eq_true h1, of_decide_eq_true h2, of_decide_eq_true h3, h4⟩⟩
def exmB (C : PySem.W.Frag → Addr) (c : PySem.W.Frag → Value) (b : Bool) : Ck := fun K => decide (PySem.W.exmOne K (.ref (C K)) (c K) = some b) && decide (PySem.W.kitOne K (.ref (C K)) (c K) = some b)
theorem exmB_ok {C : PySem.W.Frag → Addr} {c : PySem.W.Frag → Value} {b : Bool} {K : PySem.W.Frag} (h : exmB C c b K = true) : PySem.W.exmOne K (.ref (C K)) (c K) = some b ∧ PySem.W.kitOne K (.ref (C K)) (c K) = some b := by
  obtain ⟨h1, h2⟩ := He.ba h
  exact ⟨of_decide_eq_true h1, of_decide_eq_true h2⟩
def noB (C : PySem.W.Frag → Addr) (f : Str) : Ck := fun K => decide (PySem.W.findIn K (.ref (C K)) f = some none)
theorem noB_ok {C : PySem.W.Frag → Addr} {f : Str} {K : PySem.W.Frag} (h : noB C f K = true) : PySem.W.findIn K (.ref (C K)) f = some none := of_decide_eq_true h
def iniB (C : PySem.W.Frag → Addr) : Ck := fun K => decide (PySem.W.findIn K (.ref (C K)) "__init__" = some (some (.ref (He.ma K (C K) "__init__")))) && decide (PySem.W.typeIn K (.ref (He.ma K (C K) "__init__")) = some (.type "function"))
theorem iniB_ok {C : PySem.W.Frag → Addr} {K : PySem.W.Frag} (h : iniB C K = true) : PySem.W.findIn K (.ref (C K)) "__init__" = some (some (.ref (He.ma K (C K) "__init__"))) ∧ PySem.W.typeIn K (.ref (He.ma K (C K) "__init__")) = some (.type "function") := by
  obtain ⟨h1, h2⟩ := He.ba h
  exact ⟨of_decide_eq_true h1, of_decide_eq_true h2⟩
/-! ### the hook -/
def obsZ (fa : List Ck) (fn : List He.DefD) (K : PySem.W.Frag) : He.AlD := ((fa.all fun f => f K) && fn.all fun d => d.ok K, fn.map fun d => He.fnW K d.at_)
def SaysZ (fa : List Ck) (fn : List He.DefD) (K : PySem.W.Frag) : Prop := obsZ fa fn K = He.valD fn
def obsZG (n : Nat) (fa : List Ck) (fn : List He.DefD) (g : Addr → Option Obj) : He.AlD := obsZ fa fn (He.frG g (He.asD g n))
def hookZ (n : Nat) (fa : List Ck) (fn : List He.DefD) : PySem.W.Hook where
  α := He.AlD
  obs := fun s => obsZG n fa fn s.heap.get?
  val := fun _ => He.valD fn
  says := fun _ h => ∃ K : PySem.W.Frag, K.In h ∧ SaysZ fa fn K
  of := fun _ _ e => ⟨_, He.frG_in, e⟩
  keeps := fun _ _ _ ⟨K, hK, c⟩ k => ⟨K, PySem.W.Frag.In.keeps hK k, c⟩
theorem obsZG_eq {n : Nat} {fa : List Ck} {fn : List He.DefD} {g : Addr → Option Obj} {s : Shared} (h : ∀ a, g a = s.heap.get? a) : obsZG n fa fn g = (hookZ n fa fn).obs s := by
  have e : g = s.heap.get? := funext h
  rw [e] <;> rfl
section
variable {fa : List Ck} {fn : List He.DefD} {K : PySem.W.Frag}
theorem SaysZ.fact (c : SaysZ fa fn K) (i : Nat) {f : Ck} (h : fa[i]? = some f := by rfl) : f K = true := by
  have c1 := (He.ba (show ((fa.all fun f => f K) && fn.all fun d => d.ok K) = true from congrArg (fun z : He.AlD => z.1) c)).1
  exact List.all_eq_true.mp c1 f (List.mem_of_getElem? h)
theorem SaysZ.def_ (c : SaysZ fa fn K) (i : Nat) {d : He.DefD} (h : fn[i]? = some d := by rfl) : ∃ fd, FunD K d.name d.qual d.params d.body d.scope (d.dvs K) (d.kws K) (He.fAd K d.at_) fd := by
  have c2 := (He.ba (show ((fa.all fun f => f K) && fn.all fun d => d.ok K) = true from congrArg (fun z : He.AlD => z.1) c)).2
  have e : fn.map (fun d => He.fnW K d.at_) = fn.map He.DefD.val := congrArg (fun z : He.AlD => z.2) c
  have e2 : (fn.map fun d => He.fnW K d.at_)[i]? = (fn.map He.DefD.val)[i]? := by rw [e]
  rw [List.getElem?_map, List.getElem?_map, h] at e2
  exact He.DefD.funD (Option.some.inj e2) (List.all_eq_true.mp c2 d (List.mem_of_getElem? h))
/-- one def of no default, by its statement -/
abbrev dOf (g : Str) (m : Option Str) (x qual : Str) (st : Stmt) : He.DefD := ⟨(g, m), x, qual, defArgs st, defBody st, defScope st, [], []⟩
theorem fun_of {x qual : Str} {st : Stmt} {f : Addr} {fd : FuncData} (F : FunD K x qual (defArgs st) (defBody st) (defScope st) [] [] f fd) : Fun K x qual st f fd := by
  obtain ⟨oc, od, dV, kV, doc, pm, an, cdv, ct, osl, rfl, lk, hcd, hD, hK⟩ := F.ex
  rcases hD with ⟨_, rfl⟩ | ⟨e, _⟩
  · exact ⟨⟨oc, od, kV, doc, pm, an, cdv, ct, osl, rfl, lk, hcd⟩, F.kp⟩
  · exact absurd rfl e
theorem SaysZ.fun_ (c : SaysZ fa fn K) (i : Nat) {g x qual : Str} {m : Option Str} {st : Stmt} (h : fn[i]? = some (dOf g m x qual st) := by rfl) : ∃ fd, Fun K x qual st (He.fAd K (g, m)) fd := by
  obtain ⟨fd, F⟩ := c.def_ i h
  exact ⟨fd, fun_of F⟩
end
/-! ### the law is asked -/
theorem law_ask [CA] {K : PySem.W.Frag} {F : List D → Rc} {n : Nat} (hF : ∀ ns : List Int, ns.length ≤ n → F [.klst (ns.map .int)] = .ok (.v (.bl true))) {H : Hp} {a : Addr} {ns : List Int} (hl : ns.length ≤ n) (hS : SqL K H a (ns.map V.int)) :
    spP K 1 (specP F) [.ref a] H (fun v _ => v = .bl true) fun _ _ _ => False :=
  ⟨rfl, H, [.klst (ns.map .int)], (fun r => r = .val (.bl true)), fun _ => False, Le.refl _, Reps.cons ⟨a, _, rfl, hS, Reps.of_ints ns⟩ Reps.nil, by
    unfold specP
    rw [hF ns hl]
    intro r' er
    exact (er ⟨0, 0, 0, ⟨0, [], []⟩⟩).val, fun r v I' H' e re => by
    subst e
    exact re.rel, fun _ _ _ _ _ x => x.elim⟩
end Zf
namespace L2
open PySem PySem.Spec PyProof.Rows
theorem walk_ofZ {l : PySem.W.OpenLaw} {n k : Nat} {q : Program} {loose : List Str} {XP : (Str → Option Value) → Heap → Prop} {YP : World → Heap → Prop} {d : DefRec} {CX : World → CXT} {x : Str}
    (hn : l.most = some n) (hn2 : n ≤ sizeLine) (hdf : d.params.defaults = []) (hr : Room k callerA)
    (F : ∀ (w : World) (mg : Str → Option Value) (fa : Addr) (h : Heap), YP w h → h.Ns mainGlobals mg → mg d.name = some (.ref fa) →
      ∃ (K : PySem.W.Frag) (fd : FuncData) (sp : Sp), K.In h ∧ (∀ (s : Shared) (u : Value), BindsTo s fd ⟨[u], []⟩ [(x, u)]) ∧
        (∀ (H : Hp) (a : Addr) (ns : List Int), ns.length ≤ n → Only H → SqL K H a (ns.map V.int) → sp [.ref a] H (fun v _ => v = .bl true) fun _ _ _ => False) ∧
        ∀ base : Heap, K.In base → base.Ns mainGlobals mg → FnOk l.prog w K mg base (CX w) k fa fd [x] sp)
    (hCX : ∀ (w : World) (H : Hp) (s : Shared) (e : Value) (s' : Shared), CX w [] H s (fun _ _ _ => False) e s' → False) :
    PySem.W.WalkO q loose XP YP l.row.toRowW d [] (fun f vs => PySem.call f vs) := by
  refine Att.attach_call hn hdf fun w s₀ s₁ mg mb fa o pm cd doc a vs ns G Y ho hd hcd hmg hobj hints hlen hg => ?_
  obtain ⟨K, fd, sp, KX, hb, hsp, hF⟩ := F w mg fa _ Y G.T.g hmg
  exact law_call KX G.T.g G.T.b G.T.builtins G.T.nolimit hg hobj hints (Nat.le_trans hlen hn2) hr hF hb (fun H hO hS => hsp H a ns hlen hO hS) fun H e s' => hCX w H s₁ e s'
end L2
/-! Further constructs: range with a step, targets of any names, methods of built-in types, dicts. -/
namespace Zf
open PySem PySem.Spec L2 Zd
open PyProof.Rows (envOfC)
section
variable [CA] {π : Pi} {G : Gx} {pos : Pos}
/-! ### range with a step -/
theorem di_range3 {δ : En} {tg a b c : Expr} {p : Pos} {Φ : Nat → (Nat → D → Prop) → En → Prop} (h : dgs G [a, b, c] δ fun as δ1 => ∃ (i j k : Int) (n : Nat), as = [.v (.int i), .v (.int j), .v (.int k)] ∧ RgC i j k n ∧ Φ n (fun m d => d = .int (i + (m : Int) * k)) δ1)
    (hg : Gl G.X "range") (hm : G.X.mg "range" = none) (ha : PA G.X [a, b, c] (wes G.X [a, b, c])) (hs : starEach [a, b, c] G.X.env = (false, eval a G.X.env) :: starEach [b, c] G.X.env := by rfl) (hpl : (backTo pos (starEach [b, c] G.X.env)).any (·.1) = false := by rfl) :
    di G tg (.Call (.Name "range" p) [a, b, c] [] pos) δ Φ := fun σ I H x f R q =>
  (pi_range3 hg hm ha hs hpl).to (h σ I H x f _ fun as δ1 vs I1 H1 ⟨i, j, k, n, e, hr, hΦ⟩ y ar g => by
    subst e
    obtain ⟨u, r, rfl, e1, ar⟩ := ar
    obtain ⟨w, r, rfl, e2, ar⟩ := ar
    obtain ⟨z, r, rfl, e3, e4⟩ := ar
    cases (show _ = _ from e1)
    cases (show _ = _ from e2)
    cases (show _ = _ from e3)
    cases (show _ = _ from e4)
    refine ⟨i, j, k, n, rfl, hr, q _ _ δ1 _ I1 H1 hΦ y g fun m I' H' l1 l2 => ⟨fun hi => ⟨hi, fun z H2 ⟨e3, e4⟩ => ?_⟩, fun hi => (by show n ≤ m; omega)⟩⟩
    rw [e3, e4]
    exact ⟨I', .int (i + (m : Int) * k), rfl, Res.val l2 rfl⟩)
def rg3N (i j k : Int) : Option Nat :=
  if -(2 ^ 61) ≤ i ∧ i < 2 ^ 61 ∧ -(2 ^ 61) ≤ j ∧ j < 2 ^ 61 then
    if k = -1 then some (i - j).toNat
    else if 0 < k ∧ k < 1073741824 then some ((j - i + (k - 1)) / k).toNat else none
  else none
theorem rg3N_ok {i j k : Int} {n : Nat} (h : rg3N i j k = some n) : RgC i j k n := by
  unfold rg3N at h
  split at h
  · rename_i hb
    obtain ⟨b1, b2, b3, b4⟩ := hb
    split at h
    · rename_i hk
      cases h
      subst hk
      exact RgC.neg (by omega) (by omega) (by omega) (by omega)
    · split at h
      · rename_i hk
        cases h
        have e : Builtin.Range.rangeSize i j k = (((j - i + (k - 1)) / k).toNat : Int) := by
          unfold Builtin.Range.rangeSize
          rw [if_pos (show k > 0 from hk.1)]
          split
          · rename_i hlt
            have e1 : j - i + (k - 1) = (j - i - 1) + 1 * k := by omega
            rw [e1, Int.add_mul_ediv_right _ _ (by omega)]
            have : 0 ≤ (j - i - 1) / k := Int.ediv_nonneg (by omega) (by omega)
            omega
          · rename_i hlt
            have : (j - i + (k - 1)) / k < 1 := Int.ediv_lt_of_lt_mul hk.1 (by omega)
            omega
        have hn : Builtin.Range.rangeSize i j k < 2 ^ 62 + 1073741824 ∧ 0 ≤ Builtin.Range.rangeSize i j k := by
          rw [e]
          by_cases h0 : 0 ≤ j - i + (k - 1)
          · have h1 := Int.ediv_le_self k h0
            have h2 : 0 ≤ (j - i + (k - 1)) / k := Int.ediv_nonneg h0 (by omega)
            omega
          · have h1 : (j - i + (k - 1)) / k ≤ 0 := Int.ediv_nonpos_of_nonpos_of_neg (by omega) (by omega)
            omega
        refine ⟨by omega, by omega, ?_, e⟩
        unfold Builtin.Range.small
        simp only [Builtin.Range.rangeFitsLong, Bool.and_eq_true, Bool.or_eq_true, decide_eq_true_eq, beq_iff_eq]
        rw [if_pos (show k > 0 from hk.1)]
        simp only [Bool.and_eq_true, decide_eq_true_eq]
        omega
      · cases h
  · cases h
def rg3F (a : Sx → Re (List Ag)) : Sx → Re (List D) := fun s => (a s).bind fun as s1 =>
  match as with
  | [.v (.int i), .v (.int j), .v (.int k)] =>
    match rg3N i j k with
    | some n => .ok ((List.range n).map fun m : Nat => .int (i + (m : Int) * k)) s1
    | none => .no
  | _ => .no
theorem okI_rg3 {tg a b c : Expr} {p : Pos} {g : Sx → Re (List Ag)} (hm : G.X.mg "range" = none) (ha : OkA π G [a, b, c] g) (hg : Gl G.X "range" := by rfl) (hp : PA G.X [a, b, c] (wes G.X [a, b, c]) := by repeat (first | exact pa_nil | refine pa_cons PE.of ?_))
    (hs' : starEach [a, b, c] G.X.env = (false, eval a G.X.env) :: starEach [b, c] G.X.env := by rfl) (hpl : (backTo pos (starEach [b, c] G.X.env)).any (·.1) = false := by rfl) : OkI π G tg (.Call (.Name "range" p) [a, b, c] [] pos) (rg3F g) := .mk fun δ s Φ hs h => di_mono (di_range3 (ha δ s _ hs (Re.to_mono (Re.to_bind h) (fun as s1 h1 δ1 e1 m1 => by
  split at h1
  · rename_i i j k
    cases hn : rg3N i j k with
    | none => rw [hn] at h1; exact h1.elim
    | some n =>
      rw [hn] at h1
      refine ⟨i, j, k, n, rfl, rg3N_ok hn, _, by simp, fun m d hi hd => ?_, h1 δ1 e1 m1⟩
      rw [List.getElem?_map, List.getElem?_range hi, hd]
      rfl
  · exact h1.elim) fun x s1 h1 => h1)) hg hm hp hs' hpl)
/-! ### targets of any names -/
def tgsN : List D → Sx → Option Sx := fun ds s => match ds with | [] => some s | _ => none
def tgsC (g : D → Sx → Option Sx) (r : List D → Sx → Option Sx) : List D → Sx → Option Sx := fun ds s =>
  match ds with
  | d :: ds =>
    match g d s with
    | some s1 => r ds s1
    | none => none
  | [] => none
def tgT (r : List D → Sx → Option Sx) : D → Sx → Option Sx := fun d s =>
  match d with
  | .tup ds => r ds s
  | _ => none
def wgs (X : Cx) (es : List Expr) : TGs := fun vs σ H Q => ∀ pins s us, Inv X pins σ H s → Vals vs us → wpAny (model X.prog X.w) X.A (assignInOrder ((assignEach es X.env).map (·.2)) us) (fun _ s' => ∃ σ' H', Inv X pins σ' H' s' ∧ Q σ' H') X.xe s
theorem PGs.of {X : Cx} {es : List Expr} : PGs X es (wgs X es) := ⟨fun pins s σ H vs us Q I r h => h pins s us I r⟩
theorem PGs.to {X : Cx} {es : List Expr} {t : TGs} {vs : List V} {σ : L2.St} {H : Hp} {Q : L2.St → Hp → Prop} (p : PGs X es t) (h : t vs σ H Q) : wgs X es vs σ H Q := fun pins s us I r => p.run pins s σ H vs us Q I r h
def dgts (G : Gx) (es : List Expr) (ds : List D) (δ : En) (js : List Nat) (Φ : En → Prop) : Prop :=
  ∀ σ I H vs, EnvR G.X.K I H σ δ → Reps G.X.K I ds vs → ∀ Q : L2.St → Hp → Prop, (∀ σ' δ', Φ δ' → EnvR G.X.K I H σ' δ' → Goes (Own δ) (Own δ') I H I H → (∀ k, k ∉ js → σ'[k]? = σ[k]?) → σ'.length = σ.length → Q σ' H) → wgs G.X es vs σ H Q
structure OkGs (π : Pi) (G : Gx) (es : List Expr) (js : List Nat) (g : List D → Sx → Option Sx) : Prop where
  run : ∀ ds δ s s' Φ, Ers π δ s → g ds s = some s' → (∀ δ', Ers π δ' s' → Sm δ δ' → Φ δ') → dgts G es ds δ js Φ
theorem okGs_nil : OkGs π G [] [] tgsN := ⟨fun ds δ s s' Φ hs e h => by
  unfold tgsN at e
  split at e
  · cases e
    exact fun σ I H vs y r Q q => PGs.to pgs_nil ⟨r, q σ δ (h δ hs Sm.refl) y Goes.refl (fun _ _ => rfl) rfl⟩
  · cases e⟩
theorem okGs_cons {e : Expr} {es : List Expr} {js js' : List Nat} {g : D → Sx → Option Sx} {r : List D → Sx → Option Sx} (hg : OkG π G e js g) (hr : OkGs π G es js' r)
    (hs' : (assignEach (e :: es) G.X.env).map (·.2) = assign e G.X.env :: (assignEach es G.X.env).map (·.2) := by rfl) : OkGs π G (e :: es) (js ++ js') (tgsC g r) := ⟨fun ds δ s s' Φ hs e h => by
  unfold tgsC at e
  split at e
  · rename_i d ds
    split at e
    · rename_i s1 e1
      exact fun σ I H vs y rp Q q => PGs.to (pgs_cons PG.of PGs.of hs') (by
        obtain ⟨v, vr, rfl, r1, r2⟩ := rp
        refine ⟨v, vr, rfl, hg.run d δ s s1 (fun δ1 => Sm δ δ1 ∧ dgts G es ds δ1 js' Φ) hs e1 (fun δ1 h1 m1 => ⟨m1, hr.run ds δ1 s1 s' Φ h1 e fun δ2 h2 m2 => h δ2 h2 (m1.trans m2)⟩) σ I H v y r1 _ fun σ1 δ1 ⟨m1, k⟩ y1 g1 o1 l1 => ?_⟩
        exact k σ1 I H vr y1 r2 _ fun σ2 δ2 hΦ y2 g2 o2 l2 => q σ2 δ2 hΦ y2 (g1.trans g2 y1.sub) (fun k hk => (o2 k fun h => hk (List.mem_append_right _ h)).trans (o1 k fun h => hk (List.mem_append_left _ h))) (l2.trans l1))
    · cases e
  · cases e⟩
theorem okG_tup {es : List Expr} {js : List Nat} {k : Nat} {r : List D → Sx → Option Sx} {n : Nat} (hr : OkGs π G es js r) (hc : G.X.calm = true) (hn : (assignEach es G.X.env).length = n := by rfl) (hl : ∀ ds s s', r ds s = some s' → ds.length = n)
    (hst : (assignEach es G.X.env).findIdx? (·.1) = none := by rfl) : OkG π G (.Tuple es k pos) js (tgT r) := .mk fun d δ s s' Φ hs e h => by
  unfold tgT at e
  split at e
  · rename_i ds
    exact fun σ I H v z rp Q q => by
      obtain ⟨a, xs, rfl, h1, h2⟩ := rp
      exact (pg_tup hc PGs.of hn hst).to ⟨a, xs, rfl, (z.sub.sqU h1).t, h2.length.trans (hl _ _ _ e), hr.run ds δ s s' Φ hs e h σ I H xs z h2 Q q⟩
  · cases e
theorem tgsN_len {ds : List D} {s s' : Sx} (h : tgsN ds s = some s') : ds.length = 0 := by
  unfold tgsN at h
  split at h
  · rfl
  · cases h
theorem tgsC_len {g : D → Sx → Option Sx} {r : List D → Sx → Option Sx} {n : Nat} (hr : ∀ ds s s', r ds s = some s' → ds.length = n) : ∀ (ds : List D) (s s' : Sx), tgsC g r ds s = some s' → ds.length = n + 1 := fun ds s s' h => by
  unfold tgsC at h
  split at h
  · split at h
    · rw [List.length_cons, hr _ _ _ h]
    · cases h
  · cases h
/-- a, b, .. = e -/
def asgT (g : D → Sx → Option Sx) (e : Sx → Re Sl) : Sx → Rs := fun s => (e s).st fun r s1 =>
  match fastS r with
  | some d =>
    match g d s1 with
    | some s2 => .nx s2
    | none => .no
  | none => .no
theorem okS_asgT {tg e : Expr} {js : List Nat} {g : D → Sx → Option Sx} {f : Sx → Re Sl} (hg : OkG π G tg js g) (he : OkE π G e f) (hs' : swapsWithSole [tg] e pos.line G.X.env = pure false := by rfl) (hw : swappedStores [tg] e G.X.env = pure none := by rfl)
    (h1' : (assignEach [tg] G.X.env).map (·.2) = [assign tg G.X.env] := by rfl) : OkS π G (.Assign [tg] e pos) (asgT g f) := .mk fun δ s E hs h =>
  ds_asgT (he δ s _ hs (Re.to_mono (Re.st_to h) (fun r s1 h1 r' δ1 er e1 m1 => by
    cases e2 : fastS r with
    | none => rw [e2] at h1; exact h1.elim
    | some d =>
      rw [e2] at h1
      dsimp only at h1
      cases e3 : g d s1 with
      | none => rw [e3] at h1; exact h1.elim
      | some s2 => rw [e3] at h1; exact ⟨d, fastS_ok er e2, js, hg.run d δ1 s1 s2 _ e1 e3 fun δ' h' _ => h1 δ' h'⟩) fun x s1 h1 => h1)) hs' hw h1'
/-! ### methods of built-in types -/
def tyC (X : Cx) (T : String) (x : V) (H : Hp) : Prop := ∀ pins s (σ : L2.St) v, Inv X pins σ H s → RelV x v → s.TypeIs v T ∧ ∀ a, v = .ref a → ∃ ob, s.heap.get? a = some ob ∧ ob.dict = none
def tyQ : D → Option String
  | .str _ => some "str"
  | .int _ => some "int"
  | .lst _ => some "list"
  | .klst _ => some "list"
  | .dic _ _ => some "dict"
  | _ => none
theorem tyC_list {X : Cx} {a : Addr} {xs : List V} {H : Hp} (h : SqL X.K H a xs) : tyC X "list" (.ref a) H := fun pins s σ v I r => by
  cases r
  obtain ⟨its, _, pl, _⟩ := I.list h
  refine ⟨pl.isList.typeIs, fun b e => ?_⟩
  cases e
  obtain ⟨o, n, e, c, hd, _⟩ := pl
  exact ⟨o, e, hd⟩
theorem tyC_dict {X : Cx} {a : Addr} {kvs : List (Key × V)} {H : Hp} (h : Rd H a (.dK kvs)) : tyC X "dict" (.ref a) H := fun pins s σ v I r => by
  cases r
  obtain ⟨h1, h2, _⟩ := isD_at I (.inl ⟨kvs, h⟩)
  exact ⟨h1, h2⟩
theorem ty_rep {X : Cx} {I H : Hp} {d : D} {v : V} {T : String} (s : Le I H) (r : Rep X.K I d v) (e : tyQ d = some T) : tyC X T v H := by
  cases d with
  | str z => cases e; cases (show _ = _ from r); exact fun pins s σ v I r => by obtain ⟨t, rfl⟩ := r; exact ⟨typeIs_str s z t, fun _ e => nomatch e⟩
  | int i => cases e; cases (show _ = _ from r); exact fun pins s σ v I r => by obtain ⟨t, rfl⟩ := r; exact ⟨typeIs_int s i t, fun _ e => nomatch e⟩
  | lst ds => cases e; obtain ⟨a, xs, rfl, h1, _⟩ := r; exact tyC_list (SqL.of (s _ _ h1))
  | klst ds => cases e; obtain ⟨a, xs, rfl, h1, _⟩ := r; exact tyC_list (s.sqL h1)
  | dic ks ds => cases e; obtain ⟨a, kvs, rfl, h1, _⟩ := r; exact tyC_dict (s.rd h1)
  | _ => cases e
section
variable {X : Cx} {o e : Expr} {es : List Expr} {name : Str} {apos cpos : Pos} {T id : String}
theorem pe_bmC (pa : PlainAttrs T) (slot : Slot T name id) (hty : typeOf (.builtin id) = pure (.type "method_descriptor")) (ha : PA X (e :: es) (wes X (e :: es)))
    (hbase : attributeBase o name X.env (eval o X.env) = eval o X.env)
    (hfew : ((backTo cpos (starEach (e :: es) X.env)).all (fun x => !x.1) && (backToKw cpos (keywordEach [] X.env)).all (fun x => x.1.isSome)
      && decide ((e :: es).length + ([] : List Keyword).length + (if ([] : List Keyword).isEmpty then 0 else 1) < 30)) = true)
    (hline : (apos.endLine == cpos.line) = true) (hs : starEach (e :: es) X.env = (false, eval e X.env) :: starEach es X.env) (hplain : (backTo cpos (starEach es X.env)).any (·.1) = false) :
    PE X (.Call (.Attribute o name apos) (e :: es) [] cpos) (fun σ H Q => we X o σ H fun x H1 => tyC X T x H1 ∧ wes X (e :: es) σ H1 fun xs H2 => wcall X (.builtin id) (x :: xs) H2 Q) := by
  refine ⟨fun pins s σ H Q I h => ?_⟩
  refine wpAny_Call_method_late hbase hfew hline rfl (thn (PE.of.run pins s σ H _ I h) fun v s1 ⟨x, H1, I1, r1, ty1, q1⟩ => ?_)
  obtain ⟨h1, h2⟩ := ty1 _ _ _ _ I1 r1
  refine ⟨T, id, pa, slot, hty, h1, h2, ?_⟩
  have hA := ha.run cpos pins s1 σ H1 _ I1 q1
  rw [hs] at hA ⊢
  refine Calls.callWith_builtin (by show (false || (backTo cpos (starEach es X.env)).any (·.1)) = false; rw [hplain] <;> rfl) (Calls.evalArgs_plain ?_)
  exact thn hA fun us s2 ⟨vs, H2, I2, r2, q2⟩ => q2 pins s2 σ (v :: us) I2 (.cons r1 r2)
theorem pe_bmC0 (pa : PlainAttrs T) (slot : Slot T name id) (hty : typeOf (.builtin id) = pure (.type "method_descriptor"))
    (hbase : attributeBase o name X.env (eval o X.env) = eval o X.env) (hline : (apos.endLine == cpos.line) = true) :
    PE X (.Call (.Attribute o name apos) [] [] cpos) (fun σ H Q => we X o σ H fun x H1 => tyC X T x H1 ∧ wcall X (.builtin id) [x] H1 Q) := by
  refine ⟨fun pins s σ H Q I h => ?_⟩
  refine wpAny_Call_method0_late hbase hline (thn (PE.of.run pins s σ H _ I h) fun v s1 ⟨x, H1, I1, r1, ty1, q1⟩ => ?_)
  obtain ⟨h1, h2⟩ := ty1 _ _ _ _ I1 r1
  exact ⟨T, id, pa, slot, hty, h1, h2, Calls.callWith_builtin rfl (PySem.evalArgs_none (q1 pins s1 σ [v] I1 (.cons r1 .nil)))⟩
end
/-- the receiver is evaluated, its type is seen, then the arguments -/
def bmF (T : String) (p : List D → Option Sl) (o a : Sx → Re (List Ag)) : Sx → Re Sl := fun s => (o s).bind fun as s1 =>
  match as with
  | [a0] =>
    match look s1 [a0] with
    | some ([d], _) => if tyQ d = some T then (a s1).bind fun bs s2 => opF p (fun s => .ok (a0 :: bs) s) s2 else .no
    | _ => .no
  | _ => .no
theorem args_first {K : PySem.W.Frag} {I I' : Hp} {σ : L2.St} {a0 : Ag} {u : V} {bs : List Ag} {zs : List V} (l : Le I I') (h : ArgR K I σ a0 u) (h2 : ArgsR K I' σ bs zs) : ArgsR K I' σ (a0 :: bs) (u :: zs) := by
  refine ⟨u, zs, rfl, ?_, h2⟩
  cases a0 with
  | v d => exact Rep.mono l d u h
  | s i => exact h
theorem de_bm {δ : En} {Φ : DV → En → Prop} {o e : Expr} {es : List Expr} {name : Str} {apos : Pos} {T id : String} (pa : PlainAttrs T) (slot : Slot T name id) (hty : typeOf (.builtin id) = pure (.type "method_descriptor"))
    (h : dgs G [o] δ fun as δ1 => ∃ a0 d b, as = [a0] ∧ ArgsD δ1 [a0] [d] b ∧ tyQ d = some T ∧ dgs G (e :: es) δ1 fun bs δ2 => Asked G (wcall G.X (.builtin id)) Φ (a0 :: bs) δ2)
    (ha : PA G.X (e :: es) (wes G.X (e :: es))) (hbase : attributeBase o name G.X.env (eval o G.X.env) = eval o G.X.env)
    (hfew : ((backTo pos (starEach (e :: es) G.X.env)).all (fun x => !x.1) && (backToKw pos (keywordEach [] G.X.env)).all (fun x => x.1.isSome)
      && decide ((e :: es).length + ([] : List Keyword).length + (if ([] : List Keyword).isEmpty then 0 else 1) < 30)) = true)
    (hline : (apos.endLine == pos.line) = true) (hs : starEach (e :: es) G.X.env = (false, eval e G.X.env) :: starEach es G.X.env) (hplain : (backTo pos (starEach es G.X.env)).any (·.1) = false) :
    de G (.Call (.Attribute o name apos) (e :: es) [] pos) δ Φ := fun σ I H x f Q q =>
  (pe_bmC pa slot hty ha hbase hfew hline hs hplain).to (by
    have w : wes G.X [o] σ H fun vs H1 => ∃ x, vs = [x] ∧ tyC G.X T x H1 ∧ wes G.X (e :: es) σ H1 fun xs H2 => wcall G.X (.builtin id) (x :: xs) H2 Q := by
      refine h σ I H x f _ fun as δ1 vs I1 H1 ⟨a0, d, b, e1, ad, et, h2⟩ y1 ar g1 => ?_
      subst e1
      obtain ⟨u, r, rfl, q1, q3⟩ := ar
      cases (show _ = _ from q3)
      have ar1 : ArgsR G.X.K I1 σ [a0] [u] := ⟨u, [], rfl, q1, rfl⟩
      refine ⟨u, rfl, ?_, ?_⟩
      · obtain ⟨I4, bo, rp, _⟩ := borrow y1 ar1 ad
        obtain ⟨v, r, e5, r1, _⟩ := rp
        cases e5
        exact ty_rep bo.sub r1 et
      · refine h2 σ I1 H1 y1 (f.go g1 y1.sub) _ fun bs δ2 zs I2 H2 ⟨ds, b2, hd, hr⟩ y2 ar2 g2 => ?_
        have ar3 := args_first g2.le q1 ar2
        obtain ⟨I4, bo, rp, hb⟩ := borrow y2 ar3 hd
        exact hr I4 H2 _ bo.sub rp Q fun r v I' H' ⟨hf, hΦ⟩ re => by
          obtain ⟨I'', z, g'⟩ := unlent y2 bo hb hf re
          exact q r δ2 v I'' H' hΦ z ((g1.trans g2 y1.sub).trans g' y2.sub)
    exact we_mono w fun a H1 ⟨x', e4, k⟩ => by cases e4; exact k)
theorem de_bm0 {δ : En} {Φ : DV → En → Prop} {o : Expr} {name : Str} {apos : Pos} {T id : String} (pa : PlainAttrs T) (slot : Slot T name id) (hty : typeOf (.builtin id) = pure (.type "method_descriptor"))
    (h : dgs G [o] δ fun as δ1 => ∃ a0 d b, as = [a0] ∧ ArgsD δ1 [a0] [d] b ∧ tyQ d = some T ∧ Asked G (wcall G.X (.builtin id)) Φ [a0] δ1)
    (hbase : attributeBase o name G.X.env (eval o G.X.env) = eval o G.X.env) (hline : (apos.endLine == pos.line) = true) :
    de G (.Call (.Attribute o name apos) [] [] pos) δ Φ := fun σ I H x f Q q =>
  (pe_bmC0 pa slot hty hbase hline).to (by
    have w : wes G.X [o] σ H fun vs H1 => ∃ x, vs = [x] ∧ tyC G.X T x H1 ∧ wcall G.X (.builtin id) [x] H1 Q := by
      refine h σ I H x f _ fun as δ1 vs I1 H1 ⟨a0, d, b, e1, ad, et, ds, b2, hd, hr⟩ y1 ar g1 => ?_
      subst e1
      obtain ⟨u, r, rfl, q1, q3⟩ := ar
      cases (show _ = _ from q3)
      have ar1 : ArgsR G.X.K I1 σ [a0] [u] := ⟨u, [], rfl, q1, rfl⟩
      refine ⟨u, rfl, ?_, ?_⟩
      · obtain ⟨I4, bo, rp, _⟩ := borrow y1 ar1 ad
        obtain ⟨v, r, e5, r1, _⟩ := rp
        cases e5
        exact ty_rep bo.sub r1 et
      · obtain ⟨I4, bo, rp, hb⟩ := borrow y1 ar1 hd
        exact hr I4 H1 _ bo.sub rp Q fun r v I' H' ⟨hf, hΦ⟩ re => by
          obtain ⟨I'', z, g'⟩ := unlent y1 bo hb hf re
          exact q r δ1 v I'' H' hΦ z (g1.trans g' y1.sub)
    exact we_mono w fun a H1 ⟨x', e4, k⟩ => by cases e4; exact k)
theorem okE_bm {o e : Expr} {es : List Expr} {name : Str} {apos : Pos} {T id : String} {p : List D → Option Sl} {a b : Sx → Re (List Ag)} (pa : PlainAttrs T) (slot : Slot T name id) (hty : typeOf (.builtin id) = pure (.type "method_descriptor"))
    (hp : PrimOk G (wcall G.X (.builtin id)) p) (ho : OkA π G [o] a) (hb : OkA π G (e :: es) b)
    (ha : PA G.X (e :: es) (wes G.X (e :: es)) := by repeat (first | exact pa_nil | refine pa_cons PE.of ?_)) (hbase : attributeBase o name G.X.env (eval o G.X.env) = eval o G.X.env := by rfl)
    (hfew : ((backTo pos (starEach (e :: es) G.X.env)).all (fun x => !x.1) && (backToKw pos (keywordEach [] G.X.env)).all (fun x => x.1.isSome)
      && decide ((e :: es).length + ([] : List Keyword).length + (if ([] : List Keyword).isEmpty then 0 else 1) < 30)) = true := by rfl)
    (hline : (apos.endLine == pos.line) = true := by rfl) (hs' : starEach (e :: es) G.X.env = (false, eval e G.X.env) :: starEach es G.X.env := by rfl) (hplain : (backTo pos (starEach es G.X.env)).any (·.1) = false := by rfl) :
    OkE π G (.Call (.Attribute o name apos) (e :: es) [] pos) (bmF T p a b) := .mk fun δ s Φ hs h =>
  de_bm pa slot hty (ho δ s _ hs (Re.to_mono (Re.to_bind h) (fun as s1 h1 δ1 e1 m1 => by
    split at h1
    · rename_i a0
      split at h1
      · rename_i d bb hl
        split at h1
        · rename_i ht
          exact ⟨a0, d, bb, rfl, look_ok e1 hl, ht, hb δ1 s1 _ e1 (Re.to_mono (Re.to_bind h1) (fun bs s2 h2 δ2 e2 m2 => asked_at hp e2 (m1.trans m2) h2) fun x s2 h2 => h2)⟩
        · exact h1.elim
      · exact h1.elim
    · exact h1.elim) fun x s1 h1 => h1)) ha hbase hfew hline hs' hplain
def bm0F (T : String) (p : List D → Option Sl) (o : Sx → Re (List Ag)) : Sx → Re Sl := fun s => (o s).bind fun as s1 =>
  match as with
  | [a0] =>
    match look s1 [a0] with
    | some ([d], _) => if tyQ d = some T then opF p (fun s => .ok [a0] s) s1 else .no
    | _ => .no
  | _ => .no
theorem okE_bm0 {o : Expr} {name : Str} {apos : Pos} {T id : String} {p : List D → Option Sl} {a : Sx → Re (List Ag)} (pa : PlainAttrs T) (slot : Slot T name id) (hty : typeOf (.builtin id) = pure (.type "method_descriptor"))
    (hp : PrimOk G (wcall G.X (.builtin id)) p) (ho : OkA π G [o] a) (hbase : attributeBase o name G.X.env (eval o G.X.env) = eval o G.X.env := by rfl) (hline : (apos.endLine == pos.line) = true := by rfl) :
    OkE π G (.Call (.Attribute o name apos) [] [] pos) (bm0F T p a) := .mk fun δ s Φ hs h =>
  de_bm0 pa slot hty (ho δ s _ hs (Re.to_mono (Re.to_bind h) (fun as s1 h1 δ1 e1 m1 => by
    split at h1
    · rename_i a0
      split at h1
      · rename_i d bb hl
        split at h1
        · rename_i ht
          exact ⟨a0, d, bb, rfl, look_ok e1 hl, ht, asked_at hp e1 m1 h1⟩
        · exact h1.elim
      · exact h1.elim
    · exact h1.elim) fun x s1 h1 => h1)) hbase hline
/-! ### methods that change a thing of one's own -/
structure OwnOk (G : Gx) (id : String) (q : Cell → List D → Option (D × Cell)) : Prop where
  run : ∀ c ds d c', q c ds = some (d, c') → ∀ I H p vs, Le I H → I p = none → CellR G.X.K I H p c → Reps G.X.K I ds vs → ∀ Q : VK, (∀ v o, Rep G.X.K I d v → CellR G.X.K I (upd H p o) p c' → Q v (upd H p o)) → wcall G.X (.builtin id) (.ref p :: vs) H Q
theorem upd_self {H : Hp} {p : Addr} {o : HO} (h : H p = some o) : upd H p o = H := by
  funext b
  unfold upd
  split
  · rename_i e; rw [e, h]
  · rfl
def tyCell : Cell → String
  | .lst _ => "list"
  | .dic _ _ => "dict"
  | .obj _ _ _ => ""
  | .ab _ => "list"
theorem ty_cell {X : Cx} {I H : Hp} {c : Cell} {p : Addr} (h : CellR X.K I H p c) (hn : tyCell c ≠ "") : tyC X (tyCell c) (.ref p) H := by
  cases c with
  | lst ds => obtain ⟨xs, h1, _⟩ := h; exact tyC_list (SqL.of h1)
  | dic ks ds => obtain ⟨kvs, h1, _⟩ := h; exact tyC_dict (.inl h1)
  | obj C ks ds => exact absurd rfl hn
  | ab P => obtain ⟨ds, xs, h1, _⟩ := h; exact tyC_list (SqL.of h1)
theorem allV_reps {K : PySem.W.Frag} {I : Hp} {σ : L2.St} : ∀ {as : List Ag} {ds : List D} {vs : List V}, AllV as ds → ArgsR K I σ as vs → Reps K I ds vs
  | _, _, _, .nil, h => h
  | _, _, _, .v a, h => by
    obtain ⟨u, r, rfl, h1, h2⟩ := h
    exact ⟨u, r, rfl, h1, allV_reps a h2⟩
theorem de_om {δ : En} {Φ : DV → En → Prop} {i : Nat} {y : Str} {py apos : Pos} {p : Addr} {c0 : Cell} {e : Expr} {es : List Expr} {name : Str} {id T : String} {q : Cell → List D → Option (D × Cell)} (pa : PlainAttrs T) (slot : Slot T name id) (hty : typeOf (.builtin id) = pure (.type "method_descriptor"))
    (hq : OwnOk G id q) (hi : Nth G.X.N i y) (hδ : δ[i]? = some (.own p c0)) (ht : tyCell c0 = T) (hT : T ≠ "")
    (h : dgs G (e :: es) δ fun as δ1 => ∃ ds d c c', AllV as ds ∧ δ1[i]? = some (.own p c) ∧ q c ds = some (d, c') ∧ Put δ1 i (.own p c') (Φ (.val d))) (hv : Vis G.X.env.scope y)
    (hd : (y == ("__debug__" : Str)) = false) (hcd : (y == ("__classdict__" : Str)) = false)
    (ha : PA G.X (e :: es) (wes G.X (e :: es))) (hbase : attributeBase (.Name y py) name G.X.env (eval (.Name y py) G.X.env) = eval (.Name y py) G.X.env)
    (hfew : ((backTo pos (starEach (e :: es) G.X.env)).all (fun x => !x.1) && (backToKw pos (keywordEach [] G.X.env)).all (fun x => x.1.isSome)
      && decide ((e :: es).length + ([] : List Keyword).length + (if ([] : List Keyword).isEmpty then 0 else 1) < 30)) = true)
    (hline : (apos.endLine == pos.line) = true) (hs : starEach (e :: es) G.X.env = (false, eval e G.X.env) :: starEach es G.X.env) (hplain : (backTo pos (starEach es G.X.env)).any (·.1) = false) :
    de G (.Call (.Attribute (.Name y py) name apos) (e :: es) [] pos) δ Φ := fun σ I H z f Q k =>
  (pe_bmC pa slot hty ha hbase hfew hline hs hplain).to (by
    obtain ⟨h1, h2, h3⟩ := z.own i p c0 hδ
    refine we_slot hi hv hd hcd h1 ⟨ht ▸ ty_cell h3 (ht ▸ hT), h σ I H z f _ fun as δ1 vs I1 H1 ⟨ds, d, c, c', has, hc, hqq, hΦ⟩ y1 ar g => ?_⟩
    obtain ⟨g1, g2, g3⟩ := y1.own i p _ hc
    have rp : Reps G.X.K I1 ds vs := allV_reps has ar
    refine hq.run c ds d c' hqq I1 H1 p vs y1.sub g2 g3 rp Q fun v o rv cr => ?_
    have y2 := y1.upd hc cr
    exact k (.val d) _ v I1 _ hΦ (y2.cons_val rv) ((g.trans (Goes.upd y1 hc) y1.sub).sub fun a h => own_cons_val.mp h))
theorem de_om0 {δ : En} {Φ : DV → En → Prop} {i : Nat} {y : Str} {py apos : Pos} {p : Addr} {c0 c' : Cell} {d : D} {name : Str} {id T : String} {q : Cell → List D → Option (D × Cell)} (pa : PlainAttrs T) (slot : Slot T name id) (hty : typeOf (.builtin id) = pure (.type "method_descriptor"))
    (hq : OwnOk G id q) (hi : Nth G.X.N i y) (hδ : δ[i]? = some (.own p c0)) (ht : tyCell c0 = T) (hT : T ≠ "") (hqq : q c0 [] = some (d, c')) (hΦ : Put δ i (.own p c') (Φ (.val d))) (hv : Vis G.X.env.scope y)
    (hd : (y == ("__debug__" : Str)) = false) (hcd : (y == ("__classdict__" : Str)) = false)
    (hbase : attributeBase (.Name y py) name G.X.env (eval (.Name y py) G.X.env) = eval (.Name y py) G.X.env) (hline : (apos.endLine == pos.line) = true) :
    de G (.Call (.Attribute (.Name y py) name apos) [] [] pos) δ Φ := fun σ I H z f Q k =>
  (pe_bmC0 pa slot hty hbase hline).to (by
    obtain ⟨h1, h2, h3⟩ := z.own i p c0 hδ
    refine we_slot hi hv hd hcd h1 ⟨ht ▸ ty_cell h3 (ht ▸ hT), hq.run c0 [] d c' hqq I H p [] z.sub h2 h3 Reps.nil Q fun v o rv cr => ?_⟩
    have y2 := z.upd hδ cr
    exact k (.val d) _ v I _ hΦ (y2.cons_val rv) ((Goes.upd z hδ).sub fun a h => own_cons_val.mp h))
def omF (T : String) (q : Cell → List D → Option (D × Cell)) (i : Nat) (a : Sx → Re (List Ag)) : Sx → Re Sl := fun s =>
  match s[i]? with
  | some (.o _ c0) => if tyCell c0 = T then (a s).bind fun as s1 =>
      match allV as, s1[i]? with
      | some ds, some (.o t c) =>
        match q c ds with
        | some (d, c') => .ok (.v d) (s1.set i (.o t c'))
        | none => .no
      | _, _ => .no
    else .no
  | _ => .no
theorem okE_om {i : Nat} {y : Str} {py apos : Pos} {e : Expr} {es : List Expr} {name : Str} {id T : String} {q : Cell → List D → Option (D × Cell)} {a : Sx → Re (List Ag)} (pa : PlainAttrs T) (slot : Slot T name id) (hty : typeOf (.builtin id) = pure (.type "method_descriptor"))
    (hq : OwnOk G id q) (hi : Nth G.X.N i y) (hb : OkA π G (e :: es) a) (hT : T ≠ "" := by decide) (hv : Vis G.X.env.scope y := by first | exact .inl rfl | exact .inr (.inl rfl) | exact .inr (.inr rfl))
    (hd : (y == ("__debug__" : Str)) = false := by decide) (hcd : (y == ("__classdict__" : Str)) = false := by decide)
    (ha : PA G.X (e :: es) (wes G.X (e :: es)) := by repeat (first | exact pa_nil | refine pa_cons PE.of ?_)) (hbase : attributeBase (.Name y py) name G.X.env (eval (.Name y py) G.X.env) = eval (.Name y py) G.X.env := by rfl)
    (hfew : ((backTo pos (starEach (e :: es) G.X.env)).all (fun x => !x.1) && (backToKw pos (keywordEach [] G.X.env)).all (fun x => x.1.isSome)
      && decide ((e :: es).length + ([] : List Keyword).length + (if ([] : List Keyword).isEmpty then 0 else 1) < 30)) = true := by rfl)
    (hline : (apos.endLine == pos.line) = true := by rfl) (hs' : starEach (e :: es) G.X.env = (false, eval e G.X.env) :: starEach es G.X.env := by rfl) (hplain : (backTo pos (starEach es G.X.env)).any (·.1) = false := by rfl) :
    OkE π G (.Call (.Attribute (.Name y py) name apos) (e :: es) [] pos) (omF T q i a) := .mk fun δ s Φ hs h => by
  unfold omF at h
  split at h
  · rename_i t0 c0 e0
    obtain ⟨z, hz, er⟩ := hs.get e0
    obtain ⟨p, hp⟩ := er.own
    subst hp
    split at h
    · rename_i ht
      refine de_om pa slot hty hq hi hz ht hT (hb δ s _ hs (Re.to_mono (Re.to_bind h) (fun as s1 h1 δ1 e1 m1 => ?_) fun x s1 h1 => h1)) hv hd hcd ha hbase hfew hline hs' hplain
      split at h1
      · rename_i ds t c e2 e3
        obtain ⟨z1, hz1, er1⟩ := e1.get e3
        obtain ⟨q1, hq1⟩ := er1.own
        subst hq1
        obtain ⟨c2, hc2⟩ := m1 _ _ _ hz1
        rw [hz] at hc2
        cases hc2
        split at h1
        · rename_i d c' e4
          exact ⟨ds, d, c, c', allV_ok e2, hz1, e4, h1 _ _ .v (e1.set i er1.cell) (m1.trans (Sm.set fun q c e => by cases e; exact ⟨_, hz1⟩))⟩
        · exact h1.elim
      · exact h1.elim
    · exact h.elim
  · exact h.elim
def om0F (T : String) (q : Cell → List D → Option (D × Cell)) (i : Nat) : Sx → Re Sl := fun s =>
  match s[i]? with
  | some (.o t c) => if tyCell c = T then
      match q c [] with
      | some (d, c') => .ok (.v d) (s.set i (.o t c'))
      | none => .no
    else .no
  | _ => .no
theorem okE_om0 {i : Nat} {y : Str} {py apos : Pos} {name : Str} {id T : String} {q : Cell → List D → Option (D × Cell)} (pa : PlainAttrs T) (slot : Slot T name id) (hty : typeOf (.builtin id) = pure (.type "method_descriptor"))
    (hq : OwnOk G id q) (hi : Nth G.X.N i y) (hT : T ≠ "" := by decide) (hv : Vis G.X.env.scope y := by first | exact .inl rfl | exact .inr (.inl rfl) | exact .inr (.inr rfl))
    (hd : (y == ("__debug__" : Str)) = false := by decide) (hcd : (y == ("__classdict__" : Str)) = false := by decide)
    (hbase : attributeBase (.Name y py) name G.X.env (eval (.Name y py) G.X.env) = eval (.Name y py) G.X.env := by rfl) (hline : (apos.endLine == pos.line) = true := by rfl) :
    OkE π G (.Call (.Attribute (.Name y py) name apos) [] [] pos) (om0F T q i) := .mk fun δ s Φ hs h => by
  unfold om0F at h
  split at h
  · rename_i t c e0
    obtain ⟨z, hz, er⟩ := hs.get e0
    obtain ⟨p, hp⟩ := er.own
    subst hp
    split at h
    · rename_i ht
      split at h
      · rename_i d c' e4
        exact de_om0 pa slot hty hq hi hz ht hT e4 (h _ _ .v (hs.set i er.cell) (Sm.set fun q c e => by cases e; exact ⟨_, hz⟩)) hv hd hcd hbase hline
      · exact h.elim
    · exact h.elim
  · exact h.elim
/-! ### dicts -/
def keyD : D → Option Key
  | .int i => some (.inl i)
  | .str s => some (.inr s)
  | _ => none
def dgetD : List Key → List D → Key → Option D
  | k :: ks, d :: ds, q => if k = q then some d else dgetD ks ds q
  | _, _, _ => none
def hasK (ks : List Key) (q : Key) : Bool := ks.any fun k => decide (k = q)
def repV : List Key → List D → Key → D → List D
  | k :: ks, d :: ds, q, x => (if k = q then x else d) :: repV ks ds q x
  | _, _, _, _ => []
def dputK (ks : List Key) (q : Key) : List Key := if hasK ks q = true then ks else ks ++ [q]
def dputV (ks : List Key) (ds : List D) (q : Key) (x : D) : List D := if hasK ks q = true then repV ks ds q x else ds ++ [x]
theorem dputK_len (ks : List Key) (q : Key) : (dputK ks q).length ≤ ks.length + 1 := by
  unfold dputK
  split
  · omega
  · simp
theorem repV_get {q k : Key} {x : D} : ∀ {ks : List Key} {ds : List D}, ks.length = ds.length → dgetD ks (repV ks ds q x) k = if hasK ks q = true ∧ q = k then some x else dgetD ks ds k
  | [], [], _ => by simp [repV, dgetD, hasK]
  | j :: ks, d :: ds, h => by
    have ih := repV_get (q := q) (k := k) (x := x) (ks := ks) (ds := ds) (by simpa using h)
    show (if j = k then some (if j = q then x else d) else dgetD ks (repV ks ds q x) k) = _
    rw [ih]
    have e : hasK (j :: ks) q = (decide (j = q) || hasK ks q) := rfl
    rw [e]
    show _ = if _ then _ else (if j = k then some d else dgetD ks ds k)
    by_cases h1 : j = k
    · subst h1
      by_cases h2 : j = q
      · subst h2; simp
      · have h3 : ¬ q = j := fun e => h2 e.symm
        simp [h2, h3]
    · by_cases h2 : j = q
      · subst h2; simp [h1]
      · simp [h1, h2]
  | [], _ :: _, h => by simp at h
  | _ :: _, [], h => by simp at h
theorem dgetD_none : ∀ {ks : List Key} {ds : List D} {q : Key}, ks.length = ds.length → hasK ks q = false → dgetD ks ds q = none
  | [], _, _, _, _ => rfl
  | k :: ks, [], _, h, _ => by simp at h
  | k :: ks, d :: ds, q, h, e => by
    have e : (decide (k = q) || hasK ks q) = false := e
    rw [Bool.or_eq_false_iff] at e
    show (if k = q then _ else _) = _
    rw [if_neg (of_decide_eq_false e.1)]
    exact dgetD_none (by simpa using h) e.2
theorem dgetD_snoc {q k : Key} {x : D} : ∀ {ks : List Key} {ds : List D}, ks.length = ds.length → dgetD (ks ++ [q]) (ds ++ [x]) k = match dgetD ks ds k with | some y => some y | none => if q = k then some x else none
  | [], [], _ => rfl
  | j :: ks, d :: ds, h => by
    show (if j = k then some d else dgetD (ks ++ [q]) (ds ++ [x]) k) = match (if j = k then some d else dgetD ks ds k) with | some y => some y | none => if q = k then some x else none
    rw [dgetD_snoc (by simpa using h)]
    by_cases h1 : j = k
    · rw [if_pos h1, if_pos h1]
    · rw [if_neg h1, if_neg h1]
  | [], _ :: _, h => by simp at h
  | _ :: _, [], h => by simp at h
/-- what a dict gives behind d[q] = x -/
theorem dget_put {q k : Key} {x : D} {ks : List Key} {ds : List D} (h : ks.length = ds.length) : dgetD (dputK ks q) (dputV ks ds q x) k = if q = k then some x else dgetD ks ds k := by
  unfold dputK dputV
  by_cases hh : hasK ks q = true
  · rw [if_pos hh, if_pos hh, repV_get h]
    simp [hh]
  · rw [if_neg hh, if_neg hh, dgetD_snoc h]
    have hh : hasK ks q = false := by simpa using hh
    by_cases e : q = k
    · subst e
      rw [dgetD_none h hh, if_pos rfl]
    · rw [if_neg e]
      cases dgetD ks ds k <;> simp [e]
theorem repV_len {q : Key} {x : D} : ∀ {ks : List Key} {ds : List D}, ks.length = ds.length → (repV ks ds q x).length = ds.length
  | [], [], _ => rfl
  | j :: ks, d :: ds, h => by
    show (_ :: repV ks ds q x).length = _
    rw [List.length_cons, repV_len (by simpa using h), List.length_cons]
  | [], _ :: _, h => by simp at h
  | _ :: _, [], h => by simp at h
theorem dput_len {q : Key} {x : D} {ks : List Key} {ds : List D} (h : ks.length = ds.length) : (dputK ks q).length = (dputV ks ds q x).length := by
  unfold dputK dputV
  split
  · rw [repV_len h, h]
  · simp [h]
theorem key_rep {K : PySem.W.Frag} {I : Hp} {d : D} {v : V} {k : Key} (r : Rep K I d v) (e : keyD d = some k) : v = kV k := by
  cases d with
  | int i => cases e; exact r
  | str s => cases e; exact r
  | _ => cases e
theorem dget_rep {K : PySem.W.Frag} {I : Hp} {q : Key} : ∀ {kvs : List (Key × V)} {ks : List Key} {ds : List D}, kvs.map (·.1) = ks → Reps K I ds (kvs.map (·.2)) → (∀ d, dgetD ks ds q = some d → ∃ v, valV kvs q = some v ∧ Rep K I d v) ∧ (dgetD ks ds q = none → valV kvs q = none)
  | [], _, ds, rfl, r => by
    refine ⟨fun d e => ?_, fun _ => rfl⟩
    cases ds <;> cases e
  | (k, v) :: kvs, _, ds, rfl, r => by
    cases ds with
    | nil => cases (show _ = _ from r)
    | cons d ds =>
      obtain ⟨v', r', e, r1, r2⟩ := r
      cases e
      obtain ⟨i1, i2⟩ := dget_rep (q := q) (kvs := kvs) rfl r2
      show (∀ d', (if k = q then some d else dgetD (kvs.map (·.1)) ds q) = some d' → _) ∧ ((if k = q then some d else dgetD (kvs.map (·.1)) ds q) = none → _)
      by_cases h : k = q
      · rw [if_pos h]
        exact ⟨fun d' e => by cases e; exact ⟨v, valV_pos h, r1⟩, fun e => by cases e⟩
      · rw [if_neg h, valV_neg h]
        exact ⟨i1, i2⟩
theorem has_any {kvs : List (Key × V)} {q : Key} : (kvs.any fun kv => decide (kv.1 = q)) = hasK (kvs.map (·.1)) q := by
  unfold hasK
  rw [List.any_map]
  rfl
theorem rep_map {K : PySem.W.Frag} {I : Hp} {q : Key} {x : D} {u : V} (ru : Rep K I x u) : ∀ {kvs : List (Key × V)} {ds : List D}, Reps K I ds (kvs.map (·.2)) → Reps K I (repV (kvs.map (·.1)) ds q x) ((kvs.map fun kv => if kv.1 = q then (kv.1, u) else kv).map (·.2))
  | [], ds, r => by
    cases ds with
    | nil => exact r
    | cons d ds => obtain ⟨_, _, e, _⟩ := r; cases e
  | (k, v) :: kvs, ds, r => by
    cases ds with
    | nil => cases (show _ = _ from r)
    | cons d ds =>
      obtain ⟨v', r', e, r1, r2⟩ := r
      cases e
      refine ⟨_, _, rfl, ?_, rep_map ru r2⟩
      dsimp only
      split
      · exact ru
      · exact r1
theorem dput_rep {K : PySem.W.Frag} {I : Hp} {q : Key} {x : D} {u : V} {kvs : List (Key × V)} {ks : List Key} {ds : List D} (e : kvs.map (·.1) = ks) (r : Reps K I ds (kvs.map (·.2))) (ru : Rep K I x u) :
    (L2.putK kvs q u).map (·.1) = dputK ks q ∧ Reps K I (dputV ks ds q x) ((L2.putK kvs q u).map (·.2)) := by
  subst e
  unfold L2.putK dputK dputV
  rw [has_any]
  split
  · refine ⟨?_, rep_map ru r⟩
    rw [List.map_map]
    refine List.map_congr_left fun kv _ => ?_
    show (if kv.1 = q then (kv.1, u) else kv).1 = kv.1
    split <;> rfl
  · refine ⟨by simp, ?_⟩
    rw [List.map_append]
    exact r.append (Reps.cons ru Reps.nil)
/-- {} -/
theorem de_dnew {δ : En} {Φ : DV → En → Prop} (h : ∀ p, Φ (.own p (.dic [] [])) δ) : de G (.Dict [] [] pos) δ Φ := fun σ I H y f Q q =>
  pe_dnewK.to fun p hp => by
    obtain ⟨I2, z, g2⟩ := unlent (b := false) y (Bor.refl y.sub) (fun _ => rfl) (fun e => by cases e) (Res.own (c := .dic [] []) y.sub hp ⟨[], upd_same, rfl, Reps.nil⟩)
    exact q _ δ _ I2 _ (h p) z g2
def dicN : Sx → Re Sl := fun s => .ok (.o 0 (.dic [] [])) s
theorem okE_dic0 : OkE π G (.Dict [] [] pos) dicN := .mk fun δ s Φ hs h => de_dnew fun p => h _ _ .o hs Sm.refl
def qGet : Cell → List D → Option (D × Cell)
  | .dic ks ds, [k] => match keyD k with | some q => some ((dgetD ks ds q).getD .non, .dic ks ds) | none => none
  | .dic ks ds, [k, x] => match keyD k with | some q => some ((dgetD ks ds q).getD x, .dic ks ds) | none => none
  | _, _ => none
theorem getD_rep {K : PySem.W.Frag} {I : Hp} {q : Key} {kvs : List (Key × V)} {ks : List Key} {ds : List D} {x : D} {u : V} (e : kvs.map (·.1) = ks) (r : Reps K I ds (kvs.map (·.2))) (ru : Rep K I x u) : Rep K I ((dgetD ks ds q).getD x) ((valV kvs q).getD u) := by
  obtain ⟨h1, h2⟩ := dget_rep (q := q) e r
  cases h : dgetD ks ds q with
  | none => rw [h2 h]; exact ru
  | some d => obtain ⟨v, e1, e2⟩ := h1 d h; rw [e1]; exact e2
theorem qGet_ok (hu : G.X.A.units + 64 < cLine) : OwnOk G "dict.get" qGet := ⟨fun c ds d c' e I H p vs s hi cr rp Q k => by
  unfold qGet at e
  split at e
  · split at e
    · rename_i q hq
      cases e
      obtain ⟨v, rfl, r1⟩ := reps1 rp
      obtain ⟨kvs, h1, h2, h3⟩ := cr
      intro pins s0 σ us Iv vals
      cases vals with
      | cons ra vals =>
        cases vals with
        | cons rb vals =>
          cases vals
          cases ra
          cases key_rep r1 hq
          exact d_get1 (by omega) Iv (DGet.k h1) rb fun w' s' I' rw' => ⟨_, H, I', rw', by
            have := k _ (.dK kvs) (getD_rep (x := .non) (u := .non) (q := q) h2 h3 rfl) (by rw [upd_self h1]; exact ⟨kvs, h1, h2, h3⟩)
            rw [upd_self h1] at this
            exact this⟩
    · cases e
  · split at e
    · rename_i q hq
      cases e
      obtain ⟨v, w, rfl, r1, r2⟩ := reps2 rp
      obtain ⟨kvs, h1, h2, h3⟩ := cr
      intro pins s0 σ us Iv vals
      cases vals with
      | cons ra vals =>
        cases vals with
        | cons rb vals =>
          cases vals with
          | cons rc vals =>
            cases vals
            cases ra
            cases key_rep r1 hq
            exact d_get2 (by omega) Iv (DGet.k h1) rb rc fun w' s' I' rw' => ⟨_, H, I', rw', by
              have := k _ (.dK kvs) (getD_rep (q := q) h2 h3 r2) (by rw [upd_self h1]; exact ⟨kvs, h1, h2, h3⟩)
              rw [upd_self h1] at this
              exact this⟩
    · cases e
  · cases e⟩
/-! x[k] = e, x[k] -/
def wset (X : Cx) : TSet := fun o i v H Q => ∀ pins s (σ : L2.St) ov iv u, Inv X pins σ H s → RelV o ov → RelV i iv → RelV v u →
  wpAny (model X.prog X.w) X.A (setItem ov iv u) (fun _ s' => ∃ H', Inv X pins σ H' s' ∧ Q H') X.xe s
theorem set_of {X : Cx} : PSet X (wset X) := fun pins s σ H o i v ov iv u Q I ro ri rv h => h pins s σ ov iv u I ro ri rv
def setC (c : Cell) (k d : D) : Option Cell :=
  match c, k with
  | .lst ds, .int j => match L2.ixN ds.length j with | some m => some (.lst (ds.set m d)) | none => none
  | .dic ks ds, k => match keyD k with | some q => if ks.length < sizeLine then some (.dic (dputK ks q) (dputV ks ds q d)) else none | none => none
  | _, _ => none
theorem setC_ok (hu : G.X.A.units + 64 < cLine) {c c' : Cell} {k d : D} (e : setC c k d = some c') {I H : Hp} {p : Addr} {x v : V} (cr : CellR G.X.K I H p c) (rk : Rep G.X.K I k x) (rd : Rep G.X.K I d v) {Q : Hp → Prop}
    (q : ∀ o, CellR G.X.K I (upd H p o) p c' → Q (upd H p o)) : wset G.X (.ref p) x v H Q := by
  unfold setC at e
  split at e
  · split at e
    · rename_i ds j _ m hm
      cases e
      obtain ⟨xs, h1, h2⟩ := cr
      cases (show _ = _ from rk)
      exact fun pins s σ ov iv u Iv ro ri rv => set_list pins s σ H _ _ _ ov iv u Q Iv ro ri rv ⟨p, xs, j, m, rfl, rfl, h1, by rw [h2.length]; exact hm, q _ ⟨_, upd_same, h2.set m rd⟩⟩
    · cases e
  · split at e
    · rename_i ks ds _ q0 hq
      split at e
      · rename_i hl
        cases e
        obtain ⟨kvs, h1, h2, h3⟩ := cr
        cases key_rep rk hq
        obtain ⟨g1, g2⟩ := dput_rep (q := q0) h2 h3 rd
        exact fun pins s σ ov iv u Iv ro ri rv => by
          cases ro
          exact d_setItem (by omega) Iv (DPut.k h1 (by rw [← List.length_map (f := (·.1)), h2]; exact hl)) ri rv fun s' I' => ⟨_, I', q _ ⟨_, upd_same, g1, g2⟩⟩
      · cases e
    · cases e
  · cases e
theorem ds_setC {δ : En} {E : DE} {i : Nat} {y : Str} {py ps' : Pos} {p : Addr} {c0 : Cell} {e ix : Expr} (hu : G.X.A.units + 64 < cLine) (hi : Nth G.X.N i y) (hδ : δ[i]? = some (.own p c0))
    (h : de G e δ fun r δ0 => ∃ d, Fast r d ∧ (∃ c1, δ0[i]? = some (.own p c1)) ∧ dgs G [ix] δ0 fun as δ1 => ∃ k c c', as = [.v k] ∧ δ1[i]? = some (.own p c) ∧ setC c k d = some c' ∧ Put δ1 i (.own p c') E.nx) (hv : Vis G.X.env.scope y)
    (hs : swapsWithSole [.Subscript (.Name y py) ix ps'] e pos.line G.X.env = pure false) (hw : swappedStores [.Subscript (.Name y py) ix ps'] e G.X.env = pure none)
    (h1 : (assignEach [.Subscript (.Name y py) ix ps'] G.X.env).map (·.2) = [assign (.Subscript (.Name y py) ix ps') G.X.env])
    (hsub : ∀ v, assign (.Subscript (.Name y py) ix ps') G.X.env v = (do
      let ov ← holding [v] (eval (.Name y py) G.X.env)
      let iv ← holding [v, ov] (eval ix G.X.env)
      standAt ps'
      holding [v, ov, iv] (setItem ov iv v)
      release [v, ov, iv] []))
    (hd : (y == ("__debug__" : Str)) = false) (hcd : (y == ("__classdict__" : Str)) = false) : ds G (.Assign [.Subscript (.Name y py) ix ps'] e pos) δ E := fun σ I H T z f =>
  (ps_asg PE.of (pg_sub PE.of PE.of set_of hsub) hs hw h1).to (h σ I H z f.xc _ fun r δ0 v I1 H1 ⟨d, fs, ⟨c1, hc1⟩, a⟩ y1 g1 => by
    have nr := fs.ne
    cases fs.eq
    obtain ⟨I2, y2, rp, g2⟩ := top_fast y1 g1 nr
    obtain ⟨w1, w2, w3⟩ := y2.own i p c1 hc1
    refine we_slot hi hv hd hcd w1 ?_
    have f2 := f.go g2 y2.sub
    refine we_mono (a σ I2 H1 y2 f2.xc (fun vs H3 => ∃ u, vs = [u] ∧ wset G.X (.ref p) u v H3 fun H4 => T.nx σ H4) fun as δ1 vs I3 H3 ⟨k, c, c', has, hc, hm, hΦ⟩ y3 ar g3 => ?_) fun u H3 ⟨u', e, h⟩ => by
      cases e
      exact h
    subst has
    obtain ⟨u, r', rfl, e1, e2⟩ := ar
    cases (show _ = _ from e2)
    obtain ⟨g1', g2', g3'⟩ := y3.own i p _ hc
    refine ⟨_, rfl, setC_ok hu hm g3' e1 (Rep.mono g3.le _ _ rp) fun o cr => ?_⟩
    have y4 := y3.upd hc cr
    exact f2.nx σ _ I3 _ hΦ y4 (g3.trans (Goes.upd y3 hc) y3.sub))
def stC (i : Nat) (e : Sx → Re Sl) (ix : Sx → Re (List Ag)) : Sx → Rs := fun s =>
  match s[i]? with
  | some (.o _ _) => (e s).st fun r s1 =>
    match fastS r, s1[i]? with
    | some d, some (.o _ _) => (ix s1).st fun as s2 =>
      match as, s2[i]? with
      | [.v k], some (.o t c) =>
        match setC c k d with
        | some c' => .nx (s2.set i (.o t c'))
        | none => .no
      | _, _ => .no
    | _, _ => .no
  | _ => .no
theorem okS_stC {i : Nat} {y : Str} {py ps' : Pos} {e ix : Expr} {f : Sx → Re Sl} {g : Sx → Re (List Ag)} (hu : G.X.A.units + 64 < cLine) (hi : Nth G.X.N i y) (he : OkE π G e f) (hg : OkA π G [ix] g) (hv : Vis G.X.env.scope y := by first | exact .inl rfl | exact .inr (.inl rfl) | exact .inr (.inr rfl))
    (hs' : swapsWithSole [.Subscript (.Name y py) ix ps'] e pos.line G.X.env = pure false := by rfl) (hw : swappedStores [.Subscript (.Name y py) ix ps'] e G.X.env = pure none := by rfl)
    (h1' : (assignEach [.Subscript (.Name y py) ix ps'] G.X.env).map (·.2) = [assign (.Subscript (.Name y py) ix ps') G.X.env] := by rfl)
    (hsub : ∀ v, assign (.Subscript (.Name y py) ix ps') G.X.env v = (do
      let ov ← holding [v] (eval (.Name y py) G.X.env)
      let iv ← holding [v, ov] (eval ix G.X.env)
      standAt ps'
      holding [v, ov, iv] (setItem ov iv v)
      release [v, ov, iv] []) := by (intro _; rfl))
    (hd : (y == ("__debug__" : Str)) = false := by decide) (hcd : (y == ("__classdict__" : Str)) = false := by decide) : OkS π G (.Assign [.Subscript (.Name y py) ix ps'] e pos) (stC i f g) := .mk fun δ s E hs h => by
  unfold stC at h
  cases e0 : s[i]? with
  | none => rw [e0] at h; exact h.elim
  | some y =>
    rw [e0] at h
    obtain ⟨z, hz, er⟩ := hs.get e0
    cases y with
    | no => exact h.elim
    | x _ => exact h.elim
    | v d => exact h.elim
    | o t c =>
      obtain ⟨q, hq⟩ := er.own
      subst hq
      refine ds_setC hu hi hz (he δ s _ hs (Re.to_mono (Re.st_to h) (fun r s1 h1 r' δ1 er1 e1 m1 => ?_) fun x s1 h1 => h1)) hv hs' hw h1' hsub hd hcd
      cases e2 : fastS r with
      | none => rw [e2] at h1; exact h1.elim
      | some d =>
        rw [e2] at h1
        cases e3 : s1[i]? with
        | none => rw [e3] at h1; exact h1.elim
        | some y1 =>
          rw [e3] at h1
          obtain ⟨z1, hz1, er2⟩ := e1.get e3
          cases y1 with
          | no => exact h1.elim
          | x _ => exact h1.elim
          | v d => exact h1.elim
          | o t1 c1 =>
            obtain ⟨q1, hq1⟩ := er2.own
            subst hq1
            obtain ⟨c0, hc0⟩ := m1 _ _ _ hz1
            rw [hz] at hc0
            cases hc0
            refine ⟨d, fastS_ok er1 e2, ⟨c1, hz1⟩, hg δ1 s1 _ e1 (Re.to_mono (Re.st_to h1) (fun as s2 h2 δ2 e4 m2 => ?_) fun x s2 h2 => h2)⟩
            split at h2
            · rename_i k t2 c2 e5
              obtain ⟨z2, hz2, er3⟩ := e4.get e5
              obtain ⟨q2, hq2⟩ := er3.own
              subst hq2
              obtain ⟨c3, hc3⟩ := m2 _ _ _ hz2
              rw [hz1] at hc3
              cases hc3
              split at h2
              · rename_i m hm
                exact ⟨k, c2, m, rfl, hz2, hm, h2 _ (e4.set i er3.cell)⟩
              · exact h2.elim
            · exact h2.elim
/-- an item of a thing of one's own -/
def atC (c : Cell) (k : D) : Option D :=
  match c, k with
  | .lst ds, .int j => atI ds j
  | .dic ks ds, k => match keyD k with | some q => dgetD ks ds q | none => none
  | _, _ => none
theorem wix_dict {X : Cx} (hu : X.A.units + 64 < cLine) {H : Hp} {a : Addr} {y v : V} (g : DGet H a y (some v)) {Q : VK} (q : Q v H) : wix X (.ref a) y H Q := fun value slice pins s σ u w I r1 r2 e => by
  cases r1
  unfold PyProof.Rows.subscriptTail
  refine wpAny_bind ?_
  have hT := dict_typeIs I g
  rw [getitemInPython_of_ne hT.not_modules]
  refine wpAny_bind (wpAny_specialOf hT PySem.F.slot_dict_getitem.lookup ?_)
  have fin : wpAny (model X.prog X.w) X.A (subscripted slice false (.ref a) w) (fun r s₃ => wpAny (model X.prog X.w) X.A (letTemporaryGo value (.ref a) r >>= fun _ => pure r) (EP X pins σ Q) X.xe s₃) X.xe s := by
    rw [e]
    exact wpAny_operating (wpAny_mono (d_getItem (Q := EP X pins σ Q) (by omega) I g r2 fun w' s' I' r' => ⟨v, H, I', r', q⟩) (fun r s₃ h₃ => wpAny_bind (wpAny_letTemporaryGo (wpAny_pure h₃))) fun _ _ x => x)
  first
    | exact wpAny_pure (wpAny_bind fin)
    | exact wpAny_bind (wpAny_pure (wpAny_bind fin))
    | exact wpAny_bind fin
theorem atC_ok (hu : G.X.A.units + 64 < cLine) {c : Cell} {k d : D} (e : atC c k = some d) {I H : Hp} {p : Addr} {x : V} (cr : CellR G.X.K I H p c) (rk : Rep G.X.K I k x) {Q : VK} (q : ∀ v, Rep G.X.K I d v → Q v H) : wix G.X (.ref p) x H Q := by
  unfold atC at e
  split at e
  · rename_i ds j
    obtain ⟨xs, h1, h2⟩ := cr
    cases (show _ = _ from rk)
    unfold atI at e
    cases em : L2.ixN ds.length j with
    | none => rw [em] at e; cases e
    | some m =>
      rw [em] at e
      obtain ⟨v, e3, e4⟩ := h2.get (i := m) e
      exact ix_list.to ⟨p, xs, j, v, rfl, rfl, SqL.of h1, by unfold atI; rw [h2.length, em]; exact e3, q v e4⟩
  · rename_i ks ds _
    split at e
    · rename_i q0 hq
      obtain ⟨kvs, h1, h2, h3⟩ := cr
      cases key_rep rk hq
      obtain ⟨v, e1, e2⟩ := (dget_rep (q := q0) h2 h3).1 d e
      exact wix_dict hu (by rw [← e1]; exact DGet.k h1) (q v e2)
    · cases e
  · cases e
theorem de_ixC {δ : En} {Φ : DV → En → Prop} {i : Nat} {x : Str} {px : Pos} {p : Addr} {c0 : Cell} {b : Expr} (hu : G.X.A.units + 64 < cLine) (hi : Nth G.X.N i x) (hδ : δ[i]? = some (.own p c0)) (h : dgs G [b] δ fun as δ1 => ∃ k c d, as = [.v k] ∧ δ1[i]? = some (.own p c) ∧ atC c k = some d ∧ Φ (.val d) δ1)
    (hv : Vis G.X.env.scope x) (hd : (x == ("__debug__" : Str)) = false) (hcd : (x == ("__classdict__" : Str)) = false) (hs : PlainIx b) : de G (.Subscript (.Name x px) b pos) δ Φ := fun σ I H y f Q q =>
  (pe_ix IxR.of PE.of PE.of hs).to (by
    obtain ⟨h1, h2, h3⟩ := y.own i p _ hδ
    refine we_slot hi hv hd hcd h1 ?_
    refine we_mono (h σ I H y f (fun vs H1 => ∃ v, vs = [v] ∧ wix G.X (.ref p) v H1 Q) fun as δ1 vs I1 H1 ⟨k, c, d, ha, hc, hat, hΦ⟩ y1 ar g => ?_) fun v H1 ⟨u, e, h⟩ => by
      cases e
      exact h
    subst ha
    obtain ⟨u, r, rfl, e1, e2⟩ := ar
    cases (show _ = _ from e2)
    obtain ⟨_, _, g3⟩ := y1.own i p _ hc
    exact ⟨_, rfl, atC_ok hu hat g3 e1 fun v rv => q _ δ1 v I1 H1 hΦ (y1.cons_val rv) (g.sub fun a h => own_cons_val.mp h)⟩)
def ixC (i : Nat) (g : Sx → Re (List Ag)) (f : Sx → Re Sl) : Sx → Re Sl := fun s =>
  match s[i]? with
  | some (.o _ _) => (g s).bind fun as s1 =>
    match as, s1[i]? with
    | [.v k], some (.o _ c) =>
      match atC c k with
      | some d => .ok (.v d) s1
      | none => .no
    | _, _ => .no
  | _ => f s
theorem okE_ixC {i : Nat} {x : Str} {px : Pos} {b : Expr} {g : Sx → Re (List Ag)} {f : Sx → Re Sl} (hu : G.X.A.units + 64 < cLine) (hi : Nth G.X.N i x) (hg : OkA π G [b] g) (hf : OkE π G (.Subscript (.Name x px) b pos) f) (hv : Vis G.X.env.scope x := by first | exact .inl rfl | exact .inr (.inl rfl) | exact .inr (.inr rfl))
    (hd : (x == ("__debug__" : Str)) = false := by decide) (hcd : (x == ("__classdict__" : Str)) = false := by decide) (hp : PlainIx b := by exact fun _ _ => rfl) : OkE π G (.Subscript (.Name x px) b pos) (ixC i g f) := .mk fun δ s Φ hs h => by
  unfold ixC at h
  split at h
  · rename_i t0 c0 e0
    obtain ⟨z, hz, er⟩ := hs.get e0
    obtain ⟨q, hq⟩ := er.own
    subst hq
    refine de_ixC hu hi hz (hg δ s _ hs (Re.to_mono (Re.to_bind h) (fun as s1 h1 δ1 e1 m1 => ?_) fun x s1 h1 => h1)) hv hd hcd hp
    split at h1
    · rename_i k t c e2
      obtain ⟨z1, hz1, er1⟩ := e1.get e2
      obtain ⟨q1, hq1⟩ := er1.own
      subst hq1
      obtain ⟨c0, hc0⟩ := m1 _ _ _ hz1
      rw [hz] at hc0
      cases hc0
      split at h1
      · rename_i d hat
        exact ⟨k, c, d, rfl, hz1, hat, h1 _ _ .v e1 m1⟩
      · exact h1.elim
    · exact h1.elim
  · exact hf δ s Φ hs h
/-! dicts that stand -/
def pIxC : List D → Option Sl
  | [.dic ks ds, k] => match keyD k with | some q => (dgetD ks ds q).map .v | none => none
  | ds => pIx ds
theorem pIxC_ok (hu : G.X.A.units + 64 < cLine) : PrimOk G (R2l (wix G.X)) pIxC := fun ds r e => by
  unfold pIxC at e
  split at e
  · rename_i ks ds k
    split at e
    · rename_i q hq
      cases ed : dgetD ks ds q with
      | none => rw [ed] at e; cases e
      | some d =>
        rw [ed] at e
        cases e
        exact dr_R2 fun I H v w s r1 r2 Q k => by
          obtain ⟨a, kvs, rfl, h1, h2, h3⟩ := r1
          cases key_rep r2 hq
          obtain ⟨v, e1, e2⟩ := (dget_rep (q := q) h2 h3).1 d ed
          exact wix_dict hu (.inl ⟨kvs, q, s.rd h1, rfl, e1.symm⟩) (k _ v I H (fun _ => .v) (Res.val s e2))
    · cases e
  · exact pIx_ok ds r e
def pLenC : List D → Option Sl
  | [.dic ks ds] => some (.v (.int ks.length))
  | ds => pLen ds
theorem pLenC_ok : PrimOk G (wcall G.X (.builtin "len")) pLenC := fun ds r e => by
  unfold pLenC at e
  split at e
  · rename_i ks ds
    cases e
    exact dr_1 fun I H v s r Q k => by
      obtain ⟨a, kvs, rfl, h1, h2, h3⟩ := r
      intro pins s0 σ us Iv vals
      cases vals with
      | cons ra vals =>
        cases vals
        cases ra
        refine d_len Iv (s.rd h1) fun t s' I' => ⟨.int ks.length, H, I', ⟨t, ?_⟩, k _ _ I H (fun _ => .v) (Res.val s rfl)⟩
        rw [← h2, List.length_map]
  · exact pLen_ok ds r e
def pInC : List D → Option Sl
  | [k, .dic ks ds] => match keyD k with | some q => some (.v (.bl (dgetD ks ds q).isSome)) | none => none
  | ds => pIn ds
def pNinC : List D → Option Sl
  | [k, .dic ks ds] => match keyD k with | some q => some (.v (.bl (!(dgetD ks ds q).isSome))) | none => none
  | ds => pNin ds
theorem dget_some {K : PySem.W.Frag} {I : Hp} {q : Key} {kvs : List (Key × V)} {ks : List Key} {ds : List D} (e : kvs.map (·.1) = ks) (r : Reps K I ds (kvs.map (·.2))) : (valV kvs q).isSome = (dgetD ks ds q).isSome := by
  obtain ⟨h1, h2⟩ := dget_rep (q := q) e r
  cases h : dgetD ks ds q with
  | none => rw [h2 h]; rfl
  | some d => obtain ⟨v, e1, _⟩ := h1 d h; rw [e1]; rfl
theorem pInC_ok (hu : G.X.A.units + 64 < cLine) : PrimOk G (R2l (wop G.X (compareOp .In))) pInC := fun ds r e => by
  unfold pInC at e
  split at e
  · split at e
    · rename_i k ks ds q hq
      cases e
      exact dr_R2 fun I H v w s r1 r2 Q k => by
        obtain ⟨a, kvs, rfl, h1, h2, h3⟩ := r2
        cases key_rep r1 hq
        exact fun pins s0 σ u w Iv ra rb => by
          cases rb
          exact d_in (by omega) Iv (.inl ⟨kvs, q, s.rd h1, rfl, rfl⟩) ra fun s' I' => ⟨.bl _, H, I', by rw [dget_some h2 h3]; rfl, k _ _ I H (fun _ => .v) (Res.val s rfl)⟩
    · cases e
  · exact pIn_ok ds r e
theorem pNinC_ok (hu : G.X.A.units + 64 < cLine) : PrimOk G (R2l (wop G.X (compareOp .NotIn))) pNinC := fun ds r e => by
  unfold pNinC at e
  split at e
  · split at e
    · rename_i k ks ds q hq
      cases e
      exact dr_R2 fun I H v w s r1 r2 Q k => by
        obtain ⟨a, kvs, rfl, h1, h2, h3⟩ := r2
        cases key_rep r1 hq
        exact fun pins s0 σ u w Iv ra rb => by
          cases rb
          exact d_notIn (by omega) Iv (.inl ⟨kvs, q, s.rd h1, rfl, rfl⟩) ra fun s' I' => ⟨.bl _, H, I', by rw [dget_some h2 h3]; rfl, k _ _ I H (fun _ => .v) (Res.val s rfl)⟩
    · cases e
  · exact pNin_ok ds r e
/-- x.get of a dict that stands -/
def pGet : List D → Option Sl
  | [.dic ks ds, k] => match keyD k with | some q => some (.v ((dgetD ks ds q).getD .non)) | none => none
  | [.dic ks ds, k, x] => match keyD k with | some q => some (.v ((dgetD ks ds q).getD x)) | none => none
  | _ => none
theorem pGet_ok (hu : G.X.A.units + 64 < cLine) : PrimOk G (wcall G.X (.builtin "dict.get")) pGet := fun ds r e => by
  unfold pGet at e
  split at e
  · split at e
    · rename_i ks ds k q hq
      cases e
      exact dr_2 fun I H v w s r1 r2 Q k pins s0 σ us Iv vals => by
        obtain ⟨a, kvs, rfl, h1, h2, h3⟩ := r1
        cases key_rep r2 hq
        cases vals with
        | cons ra vals =>
          cases vals with
          | cons rb vals =>
            cases vals
            cases ra
            exact d_get1 (by omega) Iv (.inl ⟨kvs, q, s.rd h1, rfl, rfl⟩) rb fun w' s' I' rw' => ⟨_, H, I', rw', k _ _ I H (fun _ => .v) (Res.val s (getD_rep (x := .non) (u := .non) h2 h3 rfl))⟩
    · cases e
  · split at e
    · rename_i ks ds k x q hq
      cases e
      exact fun I H vs s rp Q k pins s0 σ us Iv vals => by
        obtain ⟨v, _, rfl, r1, w, _, rfl, r2, z, _, rfl, r3, e0⟩ := rp
        cases (show _ = _ from e0)
        obtain ⟨a, kvs, rfl, h1, h2, h3⟩ := r1
        cases key_rep r2 hq
        cases vals with
        | cons ra vals =>
          cases vals with
          | cons rb vals =>
            cases vals with
            | cons rc vals =>
              cases vals
              cases ra
              exact d_get2 (by omega) Iv (.inl ⟨kvs, q, s.rd h1, rfl, rfl⟩) rb rc fun w' s' I' rw' => ⟨_, H, I', rw', k _ _ I H (fun _ => .v) (Res.val s (getD_rep h2 h3 r3))⟩
    · cases e
  · cases e
/-- l.index(x) -/
def pIdx : List D → Option Sl
  | [.lst as, x] => if flat1 x = true ∧ as.all flat1 = true then (as.findIdx? fun y => eqD y x).map fun j => .v (.int (j : Nat)) else none
  | _ => none
theorem idx_spec {x : D} {u : V} (h1 : vOf x = some u) : ∀ {as : List D} {us : List V} {j : Nat}, as.mapM vOf = some us → (as.findIdx? fun y => eqD y x) = some j → ∃ z, us[j]? = some z ∧ eqV z u = true ∧ ∀ (m : Nat) (z' : V), m < j → us[m]? = some z' → eqV z' u = false
  | [], us, j, e, h => by simp at h
  | y :: as, us, j, e, h => by
    simp only [List.mapM_cons, Option.bind_eq_bind, Option.pure_def] at e
    cases ey : vOf y with
    | none => rw [ey] at e; cases e
    | some w =>
      rw [ey] at e
      cases ea : as.mapM vOf with
      | none => rw [ea] at e; cases e
      | some ws =>
        rw [ea] at e
        cases e
        rw [List.findIdx?_cons] at h
        by_cases hy : eqD y x = true
        · rw [if_pos hy] at h
          cases h
          exact ⟨w, rfl, by rw [eqV_D ey h1]; exact hy, fun m z' hm => absurd hm (Nat.not_lt_zero _)⟩
        · rw [if_neg hy] at h
          cases ei : as.findIdx? fun y => eqD y x with
          | none => rw [ei] at h; cases h
          | some i =>
            rw [ei] at h
            cases h
            obtain ⟨z, z1, z2, z3⟩ := idx_spec h1 ea ei
            refine ⟨z, z1, z2, fun m z' hm hz => ?_⟩
            cases m with
            | zero => cases hz; rw [eqV_D ey h1]; simpa using hy
            | succ m => exact z3 m z' (Nat.lt_of_succ_lt_succ hm) hz
theorem pIdx_ok : PrimOk G (wcall G.X (.builtin "list.index")) pIdx := fun ds r e => by
  unfold pIdx at e
  split at e
  · rename_i as x
    split at e
    · rename_i hf
      cases ei : as.findIdx? fun y => eqD y x with
      | none => rw [ei] at e; cases e
      | some j =>
        rw [ei] at e
        cases e
        obtain ⟨u, hu⟩ := flat1_v hf.1
        obtain ⟨us, e1, e2⟩ := inV_D hu hf.2
        obtain ⟨z, z1, z2, z3⟩ := idx_spec hu e1 ei
        exact dr_2 fun I H v w s r1 r2 Q k pins s0 σ vs Iv vals => by
          obtain ⟨a, xs, rfl, g1, g2⟩ := r1
          rw [flats e1 g2] at g1
          cases vOf_rep hu r2
          cases vals with
          | cons ra vals => exact mt_index pins s0 σ H _ _ _ _ _ Iv ra vals ⟨a, us, _, j, z, rfl, rfl, SqL.of (s _ _ g1), vOf_flat hu, flats_flat e1, z1, z2, z3, k _ _ I H (fun _ => .v) (Res.val s rfl)⟩
    · cases e
  · cases e
/-- l[::-1] -/
def Rrev (K : PySem.W.Frag) : List V → Hp → VK → Prop := fun vs H Q => ∃ a xs, vs = [.ref a] ∧ SqL K H a xs ∧ ∀ p, H p = none → Q (.ref p) (upd H p (.lst xs.reverse))
def pRev : List D → Option Sl
  | [.lst as] => some (.o 0 (.lst as.reverse))
  | _ => none
theorem reps_rev {K : PySem.W.Frag} {I : Hp} : ∀ {ds : List D} {vs : List V}, Reps K I ds vs → Reps K I ds.reverse vs.reverse
  | [], _, h => by cases (show _ = _ from h); exact Reps.nil
  | d :: ds, _, h => by
    obtain ⟨v, r, rfl, h1, h2⟩ := h
    rw [List.reverse_cons, List.reverse_cons]
    exact (reps_rev h2).append (Reps.cons h1 Reps.nil)
theorem pRev_ok : PrimOk G (Rrev G.X.K) pRev := fun ds r e => by
  unfold pRev at e
  split at e
  · cases e
    exact dr_1 fun I H v s r1 Q q => by
      obtain ⟨a, xs, rfl, h1, h2⟩ := r1
      exact ⟨a, xs, rfl, SqL.of (s _ _ h1), fun p hp => q _ _ _ _ (fun _ => .o) (Res.own s hp ⟨xs.reverse, upd_same, reps_rev h2⟩)⟩
  · cases e
theorem okE_rev {e : Expr} {k : Nat} {p1 p2 p3 : Pos} {p : List D → Option Sl} {g : Sx → Re (List Ag)} (hp : PrimOk G (Rrev G.X.K) p) (ha : OkA π G [e] g) :
    OkE π G (.Subscript e (.Slice none none (some (.UnaryOp .USub (.Constant (.int 1) k p1) p2)) p3) pos) (opF p g) := .mk fun δ s Φ hs h =>
  de_R (es := [e]) (R := Rrev G.X.K) (fun σ H Q h => (pe_revL PE.of).to (we_mono h fun x H1 ⟨a, xs, e, h2, h3⟩ => by
    cases e
    exact ⟨a, xs, rfl, h2, h3⟩)) (asked_of ha hp hs h)
end
end Zf
/-! Texts: slices, repetition, index, rstrip, join, str; tuples repeated. -/
namespace Zf
open PySem PySem.Spec L2 Zd
open PyProof.Rows (envOfC)
/-! ### the first place of a sign -/
section
open PySem.StrLaws PySem.Builtin PySem.Builtin.Str
theorem occ_stays (s sub : Str) (hi : Nat) : ∀ (l : List Nat) (st : Array Nat × Nat), st.fst.size = 1 → (forIn l st (occBody s sub hi 1)).run.fst = st.fst
  | [], st, h => rfl
  | a :: l, st, h => by
    rw [List.forIn_cons]
    unfold occBody
    rw [if_neg (by omega)]
    exact occ_stays s sub hi l _ h
theorem occ_first (s sub : Str) (hi i : Nat) (post : List Nat) (hc : i + sub.length ≤ hi ∧ subAt s sub i = true) : ∀ (pre : List Nat) (free : Nat), (∀ j ∈ pre ++ i :: post, free ≤ j) → (∀ j ∈ pre, ¬ (j + sub.length ≤ hi ∧ subAt s sub j = true)) →
    (forIn (pre ++ i :: post) ((#[] : Array Nat), free) (occBody s sub hi 1)).run.fst = #[i]
  | [], free, hf, hn => by
    rw [List.nil_append, List.forIn_cons]
    unfold occBody
    have c1 : (((#[] : Array Nat), free).fst.size < 1 ∧ ((#[] : Array Nat), free).snd ≤ i) ∧ i + sub.length ≤ hi := ⟨⟨by simp, hf i (by simp)⟩, hc.1⟩
    rw [if_pos ⟨c1, hc.2⟩]
    exact occ_stays s sub hi post _ (by simp)
  | a :: pre, free, hf, hn => by
    rw [List.cons_append, List.forIn_cons]
    unfold occBody
    rw [if_neg (fun h => hn a (by simp) ⟨h.1.2, h.2⟩)]
    exact occ_first s sub hi i post hc pre free (fun j hj => hf j (by rw [List.cons_append]; exact List.mem_cons_of_mem _ hj)) fun j hj => hn j (List.mem_cons_of_mem _ hj)
theorem occ_sign {x : Str} {c i : Nat} (h : x.cps.toList[i]? = some c) (hn : ∀ j, j < i → x.cps.toList[j]? ≠ some c) : occurrences x ⟨#[c]⟩ 0 x.length 1 = [i] := by
  have hi : i < x.length := by
    obtain ⟨hlt, _⟩ := List.getElem?_eq_some_iff.mp h
    simpa [Str.length] using hlt
  rw [occ_eq]
  have e : List.range' 0 (x.length + 1 - 0) = List.range' 0 i ++ i :: List.range' (i + 1) (x.length - i) := by
    have e1 : x.length + 1 - 0 = i + (x.length - i + 1) := by omega
    rw [e1, ← List.range'_append_1, Nat.zero_add, List.range'_succ]
  rw [e, occ_first x ⟨#[c]⟩ x.length i _ ((subAt_one x c i).mpr h) (List.range' 0 i) 0 (fun _ _ => Nat.zero_le _) fun j hj hc => ?_]
  rw [List.mem_range'_1] at hj
  exact hn j (by omega) ((subAt_one x c j).mp hc)
end
section
variable {G : Gx}
/-! ### slices of texts -/
theorem wsl_str {X : Cx} {Ψ : DV → Prop} {z : Str} {lo hi : Option Int} {I H : Hp} {Q : VK} (hz : z.length ≤ sizeLine) (s : Le I H) (h : Ψ (.val (.str (cutS z lo hi)))) (q : ∀ r v I' H', Ψ r → Res X.K I H I' H' r v → Q v H') : wsl X (.str z) lo hi H Q :=
  sl_to sl_str ⟨z, rfl, hz, q _ _ I H h (Res.val s rfl)⟩
def pSlToS : List D → Option Sl
  | [.str z, .int i] => if z.length ≤ sizeLine then some (.v (.str (cutS z none (some i)))) else none
  | ds => pSlTo ds
def pSlFrS : List D → Option Sl
  | [.str z, .int i] => if z.length ≤ sizeLine then some (.v (.str (cutS z (some i) none))) else none
  | ds => pSlFr ds
def pSlBtS : List D → Option Sl
  | [.str z, .int i, .int j] => if z.length ≤ sizeLine then some (.v (.str (cutS z (some i) (some j)))) else none
  | ds => pSlBt ds
theorem pSlToS_ok : PrimOk G (RslTo G.X) pSlToS := fun ds r e => by
  unfold pSlToS at e
  split at e
  · split at e
    · rename_i hz
      cases e
      exact dr_2 fun I H v w s r1 r2 Q q => by
        cases (show _ = _ from r1); cases (show _ = _ from r2)
        exact ⟨_, _, rfl, wsl_str hz s (fun _ => .v) q⟩
    · cases e
  · exact pSlTo_ok ds r e
theorem pSlFrS_ok : PrimOk G (RslFr G.X) pSlFrS := fun ds r e => by
  unfold pSlFrS at e
  split at e
  · split at e
    · rename_i hz
      cases e
      exact dr_2 fun I H v w s r1 r2 Q q => by
        cases (show _ = _ from r1); cases (show _ = _ from r2)
        exact ⟨_, _, rfl, wsl_str hz s (fun _ => .v) q⟩
    · cases e
  · exact pSlFr_ok ds r e
theorem pSlBtS_ok : PrimOk G (RslBt G.X) pSlBtS := fun ds r e => by
  unfold pSlBtS at e
  split at e
  · split at e
    · rename_i hz
      cases e
      exact fun I H vs s rp Q q => by
        obtain ⟨v, r, rfl, r1, w, r', rfl, r2, u, r'', rfl, r3, r4⟩ := rp
        cases (show _ = _ from r1); cases (show _ = _ from r2); cases (show _ = _ from r3); cases (show _ = _ from r4)
        exact ⟨_, _, _, rfl, wsl_str hz s (fun _ => .v) q⟩
    · cases e
  · exact pSlBt_ok ds r e
/-! ### a text, a tuple repeated -/
def repS (z : Str) (n : Nat) : Str := ⟨(List.replicate n z.cps.toList).flatten.toArray⟩
theorem foldl_reps (its : List Nat) : ∀ (k : Nat) (acc : List Nat), List.foldl (fun x1 x2 => x1 ++ x2) acc.toArray (List.replicate k its.toArray) = (acc ++ (List.replicate k its).flatten).toArray
  | 0, acc => by simp
  | k + 1, acc => by
    have e : acc.toArray ++ its.toArray = (acc ++ its).toArray := by simp
    have e2 : (acc ++ its) ++ (List.replicate k its).flatten = acc ++ (List.replicate (k + 1) its).flatten := by
      rw [List.replicate_succ, List.flatten_cons, List.append_assoc]
    rw [← e2, ← foldl_reps its k (acc ++ its), ← e, List.replicate_succ, List.foldl_cons]
theorem rep_fold (z : Str) (n : Nat) : (⟨(List.replicate n z.cps).foldl (· ++ ·) #[]⟩ : Str) = repS z n := by
  have := foldl_reps z.cps.toList n []
  rw [List.nil_append, Array.toArray_toList] at this
  exact congrArg Str.mk this
theorem repS_len (z : Str) (n : Nat) : (repS z n).length = z.length * n := by
  show (List.replicate n z.cps.toList).flatten.toArray.size = z.cps.size * n
  rw [List.size_toArray, List.length_flatten, List.map_replicate, List.sum_replicate_nat, Array.length_toList, Nat.mul_comm]
theorem notLong {n : Nat} (h : n ≤ sizeLine) : Builtin.Str.tooLong n = false := by
  unfold Builtin.Str.tooLong
  first
    | exact decide_eq_false (by omega)
    | (simp; omega)
def rRepS : R2 := fun x y H Q => ∃ (z : Str) (k : Int), x = .str z ∧ y = .int k ∧ -(2 ^ 63) ≤ k ∧ k < 2 ^ 63 ∧ z.length * k.toNat ≤ sizeLine ∧ z.length ≤ sizeLine ∧ Q (.str (repS z k.toNat)) H
theorem op_repS {X : Cx} : OpR X (binaryOp .Mult) rRepS := by
  intro pins s σ H x y v u Q I rx ry h
  obtain ⟨z, k, rfl, rfl, h1, h2, hz, hzl, q⟩ := h
  obtain ⟨t, rfl⟩ := rx
  obtain ⟨t2, rfl⟩ := ry
  refine PySem.P.mul_str (by rw [decide_eq_false (by omega), decide_eq_false (by omega)]; rfl) (fun hk _ => ?_) (fun hk _ => notLong hz) ?_
  · have e : (z.length : Int) * k ≤ 2 ^ 63 - 1 := by
      have : ((z.length * k.toNat : Nat) : Int) = (z.length : Int) * k := by
        rw [Int.natCast_mul, Int.toNat_of_nonneg (by omega)]
      rw [← this]
      have : sizeLine ≤ 2 ^ 63 - 1 := by decide
      omega
    have := Int.le_ediv_of_mul_le (by omega : 0 < k) e
    omega
  · by_cases c1 : k < 1
    · rw [if_pos c1]
      have e : repS z k.toNat = Str.empty := by
        rw [show k.toNat = 0 by omega]; rfl
      rw [e] at q
      exact ⟨by decide, .str _, H, I.tok _, ⟨_, rfl⟩, q⟩
    · rw [if_neg c1]
      by_cases c2 : (k == 1 || z.length == 0) = true
      · rw [if_pos c2]
        have e : repS z k.toNat = z := by
          rw [Bool.or_eq_true, beq_iff_eq, beq_iff_eq] at c2
          rcases c2 with rfl | c2
          · unfold repS
            cases z with
            | mk a => simp
          · have e0 : z = ⟨#[]⟩ := by
              cases z with
              | mk a =>
                have : a.size = 0 := c2
                rw [Array.eq_empty_of_size_eq_zero this]
            rw [e0]
            unfold repS
            congr 1
            simp
        rw [e] at q
        exact ⟨.str z, H, I, ⟨t, rfl⟩, q⟩
      · rw [if_neg c2, rep_fold]
        exact ⟨by rw [repS_len]; exact hz, .str _, H, I.tok _, ⟨_, rfl⟩, q⟩
def pMulS : List D → Option Sl
  | [.str z, .int k] => if -(2 ^ 63) ≤ k ∧ k < 2 ^ 63 ∧ z.length * k.toNat ≤ sizeLine ∧ z.length ≤ sizeLine then some (.v (.str (repS z k.toNat))) else none
  | ds => pMul ds
theorem pMulS_ok : PrimOk G (R2l (wop G.X (binaryOp .Mult))) pMulS := fun ds r e => by
  unfold pMulS at e
  split at e
  · split at e
    · rename_i z k h
      cases e
      exact dr_R2 fun I H v w s r1 r2 Q q => by
        cases (show _ = _ from r1); cases (show _ = _ from r2)
        exact op_repS.to ⟨z, k, rfl, rfl, h.1, h.2.1, h.2.2.1, h.2.2.2, q _ _ I H (fun _ => .v) (Res.val s rfl)⟩
    · cases e
  · exact pMul_ok ds r e
/-! ### a sign in a text -/
def pNinS : List D → Option Sl
  | [.str x, .str z] =>
    match x.cps.toList with
    | [c] => some (.v (.bl (!decide (c ∈ z.cps.toList))))
    | _ => none
  | ds => pNinC ds
theorem pNinS_ok [CA] (hu : G.X.A.units + 64 < cLine) : PrimOk G (R2l (wop G.X (compareOp .NotIn))) pNinS := fun ds r e => by
  unfold pNinS at e
  split at e
  · rename_i x z
    split at e
    · rename_i c hc
      cases e
      have hx : x = ⟨#[c]⟩ := by
        cases x with
        | mk a => exact congrArg Str.mk (Array.toList_inj.mp hc)
      subst hx
      exact dr_R2 fun I H v w s r1 r2 Q q => by
        cases (show _ = _ from r1)
        cases (show _ = _ from r2)
        exact op_notIn_sign.to ⟨_, _, rfl, rfl, q _ _ I H (fun _ => .v) (Res.val s rfl)⟩
    · cases e
  · exact pNinC_ok hu ds r e
/-! ### methods -/
/-- s.index(sign) -/
def pSidx : List D → Option Sl
  | [.str a, .str b] =>
    match b.cps.toList with
    | [c] => (a.cps.toList.findIdx? fun y => y == c).map fun j => .v (.int (j : Nat))
    | _ => none
  | _ => none
theorem pSidx_ok : PrimOk G (wcall G.X (.builtin "str.index")) pSidx := fun ds r e => by
  unfold pSidx at e
  split at e
  · rename_i a b
    split at e
    · rename_i c hc
      cases hf : a.cps.toList.findIdx? fun y => y == c with
      | none => rw [hf] at e; cases e
      | some j =>
        rw [hf] at e
        cases e
        have hb : b = ⟨#[c]⟩ := by
          cases b with
          | mk x => exact congrArg Str.mk (Array.toList_inj.mp hc)
        obtain ⟨h1, h2, h3⟩ := List.findIdx?_eq_some_iff_getElem.mp hf
        have ho : Builtin.Str.occurrences a b 0 a.length 1 = [j] := by
          rw [hb]
          refine occ_sign (by rw [List.getElem?_eq_getElem h1, eq_of_beq h2]) fun m hm he => ?_
          have h4 := h3 m hm
          obtain ⟨h5, h6⟩ := List.getElem?_eq_some_iff.mp he
          rw [h6] at h4
          simp at h4
        exact dr_2 fun I H v w s r1 r2 Q k pins s0 σ us Iv vals => by
          cases (show _ = _ from r1); cases (show _ = _ from r2)
          cases vals with
          | cons ra vals => exact mt_sindex pins s0 σ H _ _ _ _ _ Iv ra vals ⟨a, b, j, [], rfl, rfl, ho, k _ _ I H (fun _ => .v) (Res.val s rfl)⟩
    · cases e
  · cases e
/-- s.rstrip(signs) -/
def pRstr : List D → Option Sl
  | [.str a, .str b] => if a.length ≤ sizeLine then some (.v (.str (Txt.rstripChars a b))) else none
  | _ => none
theorem pRstr_ok : PrimOk G (wcall G.X (.builtin "str.rstrip")) pRstr := fun ds r e => by
  unfold pRstr at e
  split at e
  · rename_i a b
    split at e
    · rename_i hl
      cases e
      exact dr_2 fun I H v w s r1 r2 Q k pins s0 σ us Iv vals => by
        cases (show _ = _ from r1); cases (show _ = _ from r2)
        cases vals with
        | cons ra vals => exact mt_rstripChars pins s0 σ H _ _ _ _ _ Iv ra vals ⟨a, b, rfl, rfl, hl, k _ _ I H (fun _ => .v) (Res.val s rfl)⟩
    · cases e
  · cases e
def asStrs : List D → Option (List Str)
  | [] => some []
  | .str n :: r => (asStrs r).map fun ns => n :: ns
  | _ :: _ => none
theorem asStrs_ok : ∀ {ds : List D} {ns : List Str}, asStrs ds = some ns → ds = ns.map .str
  | [], ns, h => by cases h; rfl
  | d :: r, ns, h => by
    cases d with
    | str n =>
      have h : (asStrs r).map (fun ns => n :: ns) = some ns := h
      cases e : asStrs r with
      | none => rw [e] at h; cases h
      | some ms => rw [e] at h; cases h; rw [asStrs_ok e]; rfl
    | _ => cases h
theorem asStrs_map : ∀ (ns : List Str), asStrs (ns.map .str) = some ns
  | [] => rfl
  | n :: ns => by show (asStrs (ns.map .str)).map _ = _; rw [asStrs_map ns]; rfl
theorem reps_strs {K : PySem.W.Frag} {I : Hp} : ∀ {ns : List Str} {vs : List V}, Reps K I (ns.map .str) vs → vs = ns.map .str
  | [], _, h => h
  | n :: ns, _, h => by
    obtain ⟨v, r, rfl, h1, h2⟩ := h
    cases (show _ = _ from h1)
    rw [reps_strs h2]; rfl
/-- s.join(texts) -/
def pJoin : List D → Option Sl
  | [.str a, .lst ds] =>
    match asStrs ds with
    | some ys => if (ys.map (·.length)).sum + ys.length * a.length ≤ 16777216 then some (.v (.str (Txt.join a ys))) else none
    | none => none
  | _ => none
theorem pJoin_ok : PrimOk G (wcall G.X (.builtin "str.join")) pJoin := fun ds r e => by
  unfold pJoin at e
  split at e
  · rename_i a ds
    cases hs : asStrs ds with
    | none => rw [hs] at e; cases e
    | some ys =>
      rw [hs] at e
      dsimp only at e
      split at e
      · rename_i hl
        cases e
        cases asStrs_ok hs
        exact dr_2 fun I H v w s r1 r2 Q k pins s0 σ us Iv vals => by
          cases (show _ = _ from r1)
          obtain ⟨p, xs, rfl, h1, h2⟩ := r2
          cases reps_strs h2
          cases vals with
          | cons ra vals => exact mt_join pins s0 σ H _ _ _ _ _ Iv ra vals ⟨a, p, ys, rfl, rfl, .inl (SqL.of (s _ _ h1)), hl, k _ _ I H (fun _ => .v) (Res.val s rfl)⟩
      · cases e
  · cases e
/-- str(n) -/
def pStr : List D → Option Sl
  | [.int i] => if i.natAbs.log2 < 1920 then some (.v (.str (toString i))) else none
  | _ => none
theorem pStr_ok : PrimOk G (wcall G.X (.type "str")) pStr := fun ds r e => by
  unfold pStr at e
  split at e
  · rename_i i
    split at e
    · rename_i h
      cases e
      exact dr_1 fun I H v s r Q q => by
        cases (show _ = _ from r)
        exact call_str_int.to ⟨i, rfl, h, q _ _ I H (fun _ => .v) (Res.val s rfl)⟩
    · cases e
  · cases e
end
end Zf
/-! Texts of numbers: {x:04x}. -/
namespace PySem
open Sem (wp)
open Builtin Builtin.Str Builtin.Int
theorem wpAny_typeNameOfCut {M : Model} {A : Around} {E : Value → Shared → Prop} {s : Shared} {v : Value} {T : String} {w : Nat} {Q : String → Shared → Prop} (hT : s.TypeIs v T)
    (hn : (Value.type T == Value.type "builtin_function_or_method") = false) (h : ∀ n, Q n s) : wpAny M A (typeNameOfCut w v) Q E s := by
  unfold typeNameOfCut shownTypeOf
  refine wpAny_bind (wpAny_bind (wpAny_typeOf hT ?_))
  simp only [hn, Bool.false_eq_true, if_false]
  exact wpAny_pure (wpAny_pure (h _))
theorem gives_after_typeNameOfCut {v : Value} {T : String} {w : Nat} {k : String → Sem Fin} {m : Made} (hT : ∀ s : Shared, s.TypeIs v T)
    (hn : (Value.type T == Value.type "builtin_function_or_method") = false) (g : ∀ n, Gives (k n) m) : Gives (do let n ← typeNameOfCut w v; k n) m :=
  fun prog W A R s hq => wpAny_bind (wpAny_typeNameOfCut (hT s) hn fun n => g n prog W A R s hq)
/-- the digits of a number to the base 16, at least four signs -/
def hexPad (n : Nat) : List Nat := List.replicate (4 - ((Nat.toDigits 16 n).map fun c => c.toNat).length) 48 ++ (Nat.toDigits 16 n).map fun c => c.toNat
def hexS (n : Nat) : Str := ⟨(hexPad n).toArray⟩
def spec04x : Str := "04x"
def fs04x : Builtin.Float.FormatSpec := { fill := 48, align := 61, width := some 4, type := some 120 }
theorem parse04x (name : String) : Builtin.Float.parseFormatSpec spec04x.cps.toList name 62 = .ok fs04x := by rfl
def fld04 (neg : Bool) (digits : List Nat) : Str :=
  let sign : List Nat := if neg then [45] else []
  let width : Int := ((4 : Nat) : Int)
  let other : Int := sign.length + ([] : List Nat).length + ([] : List Nat).length
  let room : Int := width - other
  let ds := if digits.isEmpty then [] else List.replicate (room.toNat - digits.length) 48 ++ digits
  let pad := (width - other - ds.length).toNat
  ⟨(List.replicate 0 48 ++ sign ++ [] ++ List.replicate pad 48 ++ ds ++ [] ++ List.replicate 0 48).toArray⟩
theorem fld04_eq (n : Nat) (hn : (Nat.toDigits 16 n).length ≤ 4) (h0 : 0 < (Nat.toDigits 16 n).length) : fld04 (decide ((n : Int) < 0)) ((Nat.toDigits 16 n).map fun c => c.toNat) = hexS n := by
  have e : decide ((n : Int) < 0) = false := decide_eq_false (by omega)
  rw [e]
  unfold fld04 hexS hexPad
  generalize hd : (Nat.toDigits 16 n).map (fun c => c.toNat) = ds
  have hl : ds.length = (Nat.toDigits 16 n).length := by rw [← hd, List.length_map]
  have he : ds.isEmpty = false := by cases ds with | nil => simp at hl; omega | cons => rfl
  simp [he, hl]
  have : 4 - (4 - (Nat.toDigits 16 n).length + (Nat.toDigits 16 n).length) = 0 := by omega
  try rw [this]
  try simp
  omega
theorem int_format_04x_is (n : Nat) (t u : Tok) : «int.__format__» ⟨[.int n t, .str spec04x u], []⟩ = (do let kind ← typeNameOf (.str spec04x u); (do
    let name ← typeNameOfCut 200 (.int n t)
    retStr (fld04 (decide ((n : Int) < 0)) ((Nat.toDigits 16 (n : Int).natAbs).map fun c => (if ((120 : Nat) == 88) = true then c.toUpper else c).toNat)))) := by kernel_rfl
theorem gives_int_format_04x (n : Nat) (t u : Tok) (hn : (Nat.toDigits 16 n).length ≤ 4) (h0 : 0 < (Nat.toDigits 16 n).length) :
    Gives («int.__format__» ⟨[.int n t, .str spec04x u], []⟩) (.str (hexS n)) := by
  rw [int_format_04x_is, ← fld04_eq n hn h0]
  refine gives_after_typeNameOf (T := "str") (fun s => typeIs_str s _ _) (by decide) fun _ => ?_
  refine gives_after_typeNameOfCut (T := "int") (fun s => typeIs_int s _ _) (by decide) fun name => ?_
  exact .of_eq rfl
theorem digs_16 {n : Nat} (h : n < 65536) : (Nat.toDigits 16 n).length ≤ 4 ∧ 0 < (Nat.toDigits 16 n).length :=
  ⟨(Nat.length_toDigits_le_iff (by decide) (by decide)).mpr h, Nat.length_toDigits_pos⟩
theorem hexS_len {n : Nat} (h : n < 65536) : (hexS n).length = 4 := by
  have := digs_16 h
  show (hexPad n).toArray.size = 4
  rw [List.size_toArray]
  unfold hexPad
  rw [List.length_append, List.length_replicate, List.length_map]
  omega
end PySem
namespace Zf
open PySem PySem.Spec L2 Zd
open PyProof.Rows (envOfC)
section
variable {X : Cx}
/-- {x:04x} of a number of at most 16 bits -/
def r04 : V → Hp → VK → Prop := fun x H Q => ∃ n : Nat, x = .int n ∧ n < 65536 ∧ Q (.str (hexS n)) H
theorem pe_fmt04 {e : Expr} {te : TE} {k : Nat} {p p2 p3 p4 : Pos} (he : PE X e te) : PE X (.JoinedStr [.FormattedValue e (-1) (some (.JoinedStr [.Constant (.str "04x") k p] p2)) p3] p4) (tUn r04 te) := by
  refine ⟨fun pins s σ H Q I h => ?_⟩
  refine wpAny_JoinedStr_one (wpAny_FormattedValue_spec (thn (he.run pins s σ H _ I h) fun v s1 hv => ?_))
  obtain ⟨x, H1, I1, r1, n, rfl, hn, q⟩ := hv
  refine thn ((pe_joined1 pe_str).run pins s1 σ H1 (fun y H2 => y = .str "04x" ∧ Q (.str (hexS n)) H2) I1 ⟨rfl, q⟩) fun r s2 hr => ?_
  obtain ⟨y, H2, I2, r2, rfl, q2⟩ := hr
  obtain ⟨t, rfl⟩ := r1
  obtain ⟨t2, rfl⟩ := r2
  refine ⟨_, t2, rfl, ?_⟩
  refine wpAny_formatField_spec (T := "int") (by decide) (fun s' => typeIs_int s' _ _) F.slot_int_format F.entry_int_format F.args_int_format_2 (fun u => gives_int_format_04x n t u (digs_16 hn).1 (digs_16 hn).2) ?_ (by decide) (by rw [hexS_len hn]; decide)
  exact ⟨.str _, H2, I2.tok _, ⟨_, rfl⟩, q2⟩
end
section
variable {G : Gx}
def pHex : List D → Option Sl
  | [.int i] => if 0 ≤ i ∧ i < 65536 then some (.v (.str (hexS i.toNat))) else none
  | _ => none
theorem pHex_ok {X : Cx} : PrimOk G (R1l r04) pHex := fun ds r e => by
  unfold pHex at e
  split at e
  · rename_i i
    split at e
    · rename_i h
      cases e
      exact dr_R1 fun I H v s r1 Q q => by
        cases (show _ = _ from r1)
        exact ⟨i.toNat, by congr 1; omega, by omega, q _ _ I H (fun _ => .v) (Res.val s rfl)⟩
    · cases e
  · cases e
end
section
theorem de_hex {G : Gx} {δ : Zd.Env} {Φ : DV → Zd.Env → Prop} {a : Expr} {k : Nat} {p p2 p3 p4 : Pos} (h : dgs G [a] δ (Asked G (R1l r04) Φ)) : de G (.JoinedStr [.FormattedValue a (-1) (some (.JoinedStr [.Constant (.str "04x") k p] p2)) p3] p4) δ Φ :=
  de_R (fun σ H Q h => (pe_fmt04 PE.of).to (wes1 h)) h
theorem okE_hex [CA] {π : Pi} {G : Gx} {a : Expr} {g : Sx → Re (List Ag)} {k : Nat} {p p2 p3 p4 : Pos} (ha : OkA π G [a] g) : OkE π G (.JoinedStr [.FormattedValue a (-1) (some (.JoinedStr [.Constant (.str "04x") k p] p2)) p3] p4) (opF pHex g) := .mk fun δ s Φ hs h => de_hex (asked_of ha (pHex_ok (X := G.X)) hs h)
end
section
open Zd
/-- what list.insert asks -/
def rInsert : V → List V → Hp → VK → Prop := fun x vs H Q => ∃ (l : Addr) (xs : List V) (i : Int) (y : V), x = .ref l ∧ vs = [.int i, y] ∧ H l = some (.lst xs) ∧ xs.length < sizeLine ∧ 0 ≤ i ∧ i < 2 ^ 63 ∧
    Q .non (upd H l (.lst (xs.take i.toNat ++ [y] ++ xs.drop i.toNat)))
variable {G : Gx} {δ : Zd.Env} {Φ : DV → Zd.Env → Prop} {pos : Pos}
theorem de_insert {i : Nat} {y : Str} {py apos : Pos} {q : Addr} {c0 : Cell} {ea e : Expr} (hi : Nth G.X.N i y) (hδ : δ[i]? = some (.own q c0))
    (h : dgs G [ea, e] δ fun as δ1 => ∃ m d ds, as = [.v (.int m), .v d] ∧ δ1[i]? = some (.own q (.lst ds)) ∧ ds.length < sizeLine ∧ 0 ≤ m ∧ m < 2 ^ 63 ∧ Put δ1 i (.own q (.lst (ds.take m.toNat ++ [d] ++ ds.drop m.toNat))) (Φ (.val .non))) (hq : ∃ ds, c0 = .lst ds) (hv : Vis G.X.env.scope y)
    (hd : (y == ("__debug__" : Str)) = false := by decide) (hcd : (y == ("__classdict__" : Str)) = false := by decide)
    (hbase : attributeBase (.Name y py) "insert" G.X.env (eval (.Name y py) G.X.env) = eval (.Name y py) G.X.env := by rfl)
    (hfew : ((backTo pos (starEach [ea, e] G.X.env)).all (fun x => !x.1) && (backToKw pos (keywordEach [] G.X.env)).all (fun x => x.1.isSome) && decide ([ea, e].length + ([] : List Keyword).length + (if ([] : List Keyword).isEmpty then 0 else 1) < 30)) = true := by rfl)
    (hline : (apos.endLine == pos.line) = true := by rfl) (hs : starEach [ea, e] G.X.env = (false, eval ea G.X.env) :: starEach [e] G.X.env := by rfl) (hs2 : starEach [e] G.X.env = (false, eval e G.X.env) :: starEach [] G.X.env := by rfl) (hplain : (backTo pos (starEach [e] G.X.env)).any (·.1) = false := by rfl) :
    de G (.Call (.Attribute (.Name y py) "insert" apos) [ea, e] [] pos) δ Φ := fun σ I H z f Q k =>
  (pe_bm PySem.F.plainAttrs_list PySem.F.slot_list_insert PySem.F.type_list_insert mt_insert PE.of (pa_cons PE.of (pa_cons PE.of pa_nil hs2) hs) hbase hfew hline hs hplain).to (by
    obtain ⟨h1, h2, h3⟩ := z.own i q c0 hδ
    obtain ⟨ds0, rfl⟩ := hq
    refine we_slot hi hv hd hcd h1 ⟨.inl ⟨rfl, ?_⟩, ?_⟩
    · obtain ⟨xs, g1, _⟩ := h3
      exact ⟨xs, SqL.of g1⟩
    · refine we_mono (h σ I H z f (fun vs H1 => ∃ m v, vs = [.int m, v] ∧ rInsert (.ref q) [.int m, v] H1 Q) fun as δ1 vs I1 H1 ⟨m, d, ds, has, hc, hz, hm0, hm1, hΦ⟩ y1 ar g => ?_) fun v H1 h => ?_
      · subst has
        obtain ⟨u, r, rfl, e1, u2, r2, rfl, e2, e3⟩ := ar
        cases (show _ = _ from e3)
        cases (show _ = _ from e1)
        have e2 : Rep G.X.K I1 d u2 := e2
        obtain ⟨g1, g2, g3⟩ := y1.own i q _ hc
        obtain ⟨xs, x1, x2⟩ := g3
        refine ⟨m, u2, rfl, q, xs, m, u2, rfl, rfl, x1, by rw [x2.length]; exact hz, hm0, hm1, ?_⟩
        have y2 := y1.upd (c' := .lst (ds.take m.toNat ++ [d] ++ ds.drop m.toNat)) (o := .lst (xs.take m.toNat ++ [u2] ++ xs.drop m.toNat)) hc ⟨_, upd_same, ((x2.take _).append (Reps.cons e2 Reps.nil)).append (x2.drop _)⟩
        exact k (.val .non) _ .non I1 _ hΦ (y2.cons_val rfl) ((g.trans (Goes.upd y1 hc) y1.sub).sub fun a h => own_cons_val.mp h)
      · refine we_mono h fun w H2 h2 => ?_
        obtain ⟨m, v', e, h3⟩ := h2
        cases e
        exact h3)
end
section
variable [CA] {π : Pi} {G : Gx} {pos : Pos}
/-- x.insert(i, e) -/
def insF (i : Nat) (a : Sx → Re (List Ag)) : Sx → Re Sl := fun s =>
  match s[i]? with
  | some (.o _ (.lst _)) => (a s).bind fun as s1 =>
    match as, s1[i]? with
    | [.v (.int m), .v d], some (.o t (.lst ds)) => if ds.length < sizeLine ∧ 0 ≤ m ∧ m < 2 ^ 63 then .ok (.v .non) (s1.set i (.o t (.lst (ds.take m.toNat ++ [d] ++ ds.drop m.toNat)))) else .no
    | _, _ => .no
  | _ => .no
theorem okE_ins {i : Nat} {y : Str} {py apos : Pos} {ea e : Expr} {g : Sx → Re (List Ag)} (hi : Nth G.X.N i y) (hg : OkA π G [ea, e] g) (hv : Vis G.X.env.scope y := by first | exact .inl rfl | exact .inr (.inl rfl) | exact .inr (.inr rfl))
    (hd : (y == ("__debug__" : Str)) = false := by decide) (hcd : (y == ("__classdict__" : Str)) = false := by decide)
    (hbase : attributeBase (.Name y py) "insert" G.X.env (eval (.Name y py) G.X.env) = eval (.Name y py) G.X.env := by rfl)
    (hfew : ((backTo pos (starEach [ea, e] G.X.env)).all (fun x => !x.1) && (backToKw pos (keywordEach [] G.X.env)).all (fun x => x.1.isSome) && decide ([ea, e].length + ([] : List Keyword).length + (if ([] : List Keyword).isEmpty then 0 else 1) < 30)) = true := by rfl)
    (hline : (apos.endLine == pos.line) = true := by rfl) (hs' : starEach [ea, e] G.X.env = (false, eval ea G.X.env) :: starEach [e] G.X.env := by rfl) (hs2 : starEach [e] G.X.env = (false, eval e G.X.env) :: starEach [] G.X.env := by rfl) (hplain : (backTo pos (starEach [e] G.X.env)).any (·.1) = false := by rfl) :
    OkE π G (.Call (.Attribute (.Name y py) "insert" apos) [ea, e] [] pos) (insF i g) := .mk fun δ s Φ hs h => by
  unfold insF at h
  split at h
  · rename_i t0 ds0 e0
    obtain ⟨z, hz, er⟩ := hs.get e0
    obtain ⟨q, hq⟩ := er.own
    subst hq
    refine de_insert hi hz (hg δ s _ hs (Re.to_mono (Re.to_bind h) (fun as s1 h1 δ1 e1 m1 => ?_) fun x s1 h1 => h1)) ⟨_, rfl⟩ hv hd hcd hbase hfew hline hs' hs2 hplain
    split at h1
    · rename_i m d t ds e2
      obtain ⟨z1, hz1, er1⟩ := e1.get e2
      obtain ⟨q1, hq1⟩ := er1.own
      subst hq1
      obtain ⟨c0, hc0⟩ := m1 _ _ _ hz1
      rw [hz] at hc0
      cases hc0
      split at h1
      · rename_i hl
        refine ⟨m, d, ds, rfl, hz1, hl.1, hl.2.1, hl.2.2, h1 _ _ .v (e1.set i er1.cell) (m1.trans (Sm.set fun q c e => ?_))⟩
        cases e
        exact ⟨_, hz1⟩
      · exact h1.elim
    · exact h1.elim
  · exact h.elim
end
end Zf
/-! Within an except suite: defs that are called there, their comprehensions. -/
namespace Zd
open PySem PySem.Spec L2 L2H
open PyProof.Rows (envOfC)
abbrev hX (P : Program) (w : World) (K : PySem.W.Frag) (mg : Str → Option Value) (base : Heap) (N : List Str) (qual : Str) (st : Stmt) (f : Addr) (cdv : Value) (A : Around) (outer : List PySem.Env) (s : Shared) (H : Hp) (E : XK) (p : Addr × Obj) : Cx :=
  cxH (L2N.CX P w) P w K mg base N qual (defScope st) f cdv A outer s H E p
def wiW (X : Cx) (tg iter : Expr) : TI := fun σ H R => ∀ pins s, Inv X pins σ H s →
  wpAny (model X.prog X.w) X.A (eval iter X.env) (fun v s1 => wpAny (model X.prog X.w) X.A (pyIter v) (Zh.PIEW X pins σ tg R) X.xe s1) X.xe s
theorem piW_of {X : Cx} {t e : Expr} : Zh.PIW X t e (wiW X t e) := ⟨fun pins s σ H Q I h => h pins s I⟩
theorem piW_to {X : Cx} {tg e : Expr} {t : TI} {σ : L2.St} {H : Hp} {Q : It → Hp → Prop} (p : Zh.PIW X tg e t) (h : t σ H Q) : wiW X tg e σ H Q := fun pins s I => p.run pins s σ H Q I h
def diW (G : Gx) (tg iter : Expr) (δ : Env) (Φ : Nat → (Nat → D → Prop) → Env → Prop) : Prop :=
  ∀ σ I H, EnvR G.X.K I H σ δ → XFut G δ I H → ∀ R : It → Hp → Prop, (∀ n it δ' J I' H', Φ n it δ' → EnvR G.X.K I' H' σ δ' → Goes (Own δ) (Own δ') I H I' H' → Yields G.X.K I' J n it → R J H') → wiW G.X tg iter σ H R
/-- what is walked in a hot place: lists and tuples -/
inductive SeqW : D → List D → Prop where
  | lst {as : List D} : SeqW (.lst as) as
  | tup {as : List D} : SeqW (.tup as) as
section
variable {X : Cx} {tg : Expr} {pins : List (Addr × Obj)} {s : Shared} {σ : L2.St} {H : Hp} {R : It → Hp → Prop}
theorem itW_list {a : Addr} {xs : List V} (J : Inv X pins σ H s) (h : SqL X.K H a xs) (q : R (Itl X.K a) H) : wpAny (model X.prog X.w) X.A (pyIter (.ref a)) (Zh.PIEW X pins σ tg R) X.xe s := by
  obtain ⟨its, rv, p, hz⟩ := J.list h
  exact wpAny_pyIter_list p.isList ⟨s.heap.objs.size, _, _, H, rfl, J.kept (t' := s.toks) fun b o e => Heap.get?_push_of_some _ e, Zh.turnW_list a _, ⟨_, Heap.get?_push_size _ rfl, rfl, rfl⟩, J.fpOk (Nat.le_refl _) (J.hok.fresh (Nat.le_refl _)), q⟩
theorem itW_tup {a : Addr} {xs : List V} (J : Inv X pins σ H s) (h : SqT X.K H a xs) (q : R (Itt X.K a) H) : wpAny (model X.prog X.w) X.A (pyIter (.ref a)) (Zh.PIEW X pins σ tg R) X.xe s := by
  obtain ⟨its, rv, p, hz⟩ := J.tuple h
  exact wpAny_pyIter_tuple (show s.heap.IsTuple a its.toArray from p) ⟨s.heap.objs.size, _, _, H, rfl, J.kept (t' := s.toks) fun b o e => Heap.get?_push_of_some _ e, Zh.turnW_tuple a _, ⟨_, Heap.get?_push_size _ rfl, rfl, rfl⟩, J.fpOk (Nat.le_refl _) (J.hok.fresh (Nat.le_refl _)), q⟩
end
section
variable {G : Gx} {δ : Env} {pos : Pos} {Φ : DV → Env → Prop}
theorem diW_seq {tg l : Expr} {Ψ : Nat → (Nat → D → Prop) → Env → Prop} (h : de G l δ fun r δ1 => ∃ d as, Fast r d ∧ SeqW d as ∧ Ψ as.length (fun i d => as[i]? = some d) δ1) : diW G tg l δ Ψ := fun σ I H x f R q pins s Iv =>
  thn (h σ I H x f (fun v H1 => ∃ I2 d as δ1, SeqW d as ∧ Rep G.X.K I2 d v ∧ Ψ as.length (fun i d => as[i]? = some d) δ1 ∧ EnvR G.X.K I2 H1 σ δ1 ∧ Goes (Own δ) (Own δ1) I H I2 H1) (fun r δ1 v I1 H1 ⟨d, as, fs, sq, hΦ⟩ y g => by
    have nr := fs.ne
    cases fs.eq
    obtain ⟨I2, y2, rp, g2⟩ := top_fast y g nr
    exact ⟨I2, _, as, δ1, sq, rp, hΦ, y2, g2⟩) pins s Iv) fun u s1 ⟨v, H1, J, rv, I2, d, as, δ1, sq, rp, hΦ, y2, g2⟩ => by
    cases sq with
    | lst =>
      obtain ⟨a, xs, rfl, h1, h2⟩ := rp
      cases (show _ = _ from rv)
      refine itW_list J (SqL.of (y2.sub _ _ h1)) (q _ _ δ1 _ I2 H1 hΦ y2 g2 fun i I' H' l1 l2 => ?_)
      have hx : SqL G.X.K H' a xs := SqL.of (l2 _ _ (l1 _ _ h1))
      refine ⟨fun hi => ?_, fun hi => ⟨xs, hx, by rw [h2.length]; omega⟩⟩
      obtain ⟨w, e1, e2⟩ := h2.get (List.getElem?_eq_getElem hi)
      refine ⟨⟨xs, w, hx, e1⟩, fun z H2 ⟨e3, e4⟩ => ?_⟩
      have := e4 xs hx
      rw [e1] at this
      cases this
      rw [e3]
      exact ⟨I', _, List.getElem?_eq_getElem hi, Res.val l2 (Rep.mono l1 _ _ e2)⟩
    | tup =>
      obtain ⟨a, xs, rfl, h1, h2⟩ := rp
      cases (show _ = _ from rv)
      refine itW_tup J (y2.sub.sqU h1).t (q _ _ δ1 _ I2 H1 hΦ y2 g2 fun i I' H' l1 l2 => ?_)
      have hx := (l2.sqU (l1.sqU h1)).t
      refine ⟨fun hi => ?_, fun hi => ⟨xs, hx, by rw [h2.length]; omega⟩⟩
      obtain ⟨w, e1, e2⟩ := h2.get (List.getElem?_eq_getElem hi)
      refine ⟨⟨xs, w, hx, e1⟩, fun z H2 ⟨e3, e4⟩ => ?_⟩
      have := e4 xs hx
      rw [e1] at this
      cases this
      rw [e3]
      exact ⟨I', _, List.getElem?_eq_getElem hi, Res.val l2 (Rep.mono l1 _ _ e2)⟩
theorem de_lcW {elt tg iter : Expr} {scope : Scope} {own : List (Str × Nat)}
    (h : diW G tg iter δ fun n it δ1 => ∃ Pv, LcOk G elt tg [] scope (own.map (·.2)) n it δ1 (fun acc δ2 => ∀ p, Φ (.own p (.lst acc)) δ2) Pv) (hot : Zh.HotW G.X) (hN : G.X.N.Nodup) (ok : BlkOk G.X.N G.X.env.scope scope own)
    (hs : ∀ x, foldedSetIterable iter G.X.env x = pure x) : de G (.ListComp elt [⟨tg, iter, [], 0⟩] scope pos) δ Φ := fun σ I H x f Q q =>
  (Zh.pe_lcW (g := wgB G.X scope tg) (te := weB G.X scope elt) hot hN piW_of ok (fun s H C cl fp => ⟨fun pins s' σ H' v u Q I r h => h s H C cl fp pins s' u I r⟩) (fun s H C cl fp hw => ⟨fun pins s' σ H' Q I h => h s H C cl fp (.inr hw) pins s' I⟩) hs).to
    (h σ I H x f _ fun n it δ1 J I1 H1 ⟨Pv, k⟩ y g yl => fun Dl hD => lc_reads (Φ := Φ) .nil y yl k (fun r δ' v I' H' a b c => q r δ' v I' H' a b (g.trans c y.sub)) Dl hD)
end
/-! ### defs -/
structure CalH (P : Program) (w : World) (K : PySem.W.Frag) (mg : Str → Option Value) (base : Heap) (j : Nat) (x : Str) (n : Nat) (S : PSp) : Prop where
  ex : ∃ f fd ps, FnH P w K mg base (L2N.CX P w) j f fd ps (spP K n S) ∧ ps.length = n ∧ mg x = some (.ref f) ∧ PySem.W.keepIn K (.ref f) = true ∧ Binds K fd ps []
section
variable {P : Program} {w : World} {K : PySem.W.Frag} {mg : Str → Option Value} {base : Heap}
theorem takes_h {N : List Str} {qual : Str} {st : Stmt} {f : Addr} {cdv : Value} {A : Around} {outer : List PySem.Env} {s : Shared} {H : Hp} {E : XK} {p : Addr × Obj} : L2N.Takes (hX P w K mg base N qual st f cdv A outer s H E p) (fW E) := L2N.takes_of rfl rfl rfl rfl
theorem fn_PH {x qual : Str} {st : Stmt} {f : Addr} {fd : FuncData} {N ps : List Str} {k : Nat} {S : PSp} (F : Fun K x qual st f fd) (Sc : FnScope N ps (defScope st)) (hN : ps.length ≤ N.length)
    (hbody : ∀ (cdv : Value) (A : Around) (outer : List PySem.Env) (s : Shared) (H : Hp) (E : XK) (p : Addr × Obj) (ds : List D) (Ψ : DV → Prop) (Ξ : Exn → Prop), Zh.HotW (hX P w K mg base N qual st f cdv A outer s H E p) → RoomH k (A.deeper (envOfC qual (defScope st) s.heap.objs.size f cdv)) → ds.length = ps.length → S ds Ψ Ξ →
      dsb ⟨hX P w K mg base N qual st f cdv A outer s H E p, fW E, fun x _ => Ξ x⟩ (defBody st) (ds.map .val ++ List.replicate (N.length - ds.length) .no) (pE Ψ)) : FnH P w K mg base (L2N.CX P w) (k + 1) f fd ps (spP K ps.length S) := by
  obtain ⟨_, _, _, _, _, _, cd, _, _, rfl, at_, code⟩ := F.ex
  exact fn_ofH at_ code Sc (fun vs H Q E h => h.1) fun A outer s H vs Q E p hot room h => ⟨_, PSs.of, body_P (X := hX P w K mg base N qual st f cd A outer s H E p) h hN fun ds Ψ Ξ ld hS => hbody cd A outer s H E p ds Ψ Ξ (Zh.HotW.of ⟨p, hot, List.mem_singleton.mpr rfl⟩) room ld hS⟩
end
end Zd
namespace L2H
theorem room_hot {k : Nat} {A : PySem.Around} (r : L2.Room k A) (h : Option PySem.Value) : RoomH k (A.mark h) := ⟨r.dp, r.un⟩
theorem RoomH.units {k : Nat} {A : PySem.Around} (r : RoomH k A) : A.units + 64 < PySem.cLine := by have := r.un; omega
end L2H
namespace Zf
open PySem PySem.Spec L2 Zd L2H
open PyProof.Rows (envOfC)
section
variable [CA] {π : Pi} {G : Gx} {pos : Pos}
def itW (e : Sx → Re Sl) : Sx → Re (List D) := fun s => (e s).bind fun r s1 =>
  match fastS r with
  | some (.lst ds) => .ok ds s1
  | some (.tup ds) => .ok ds s1
  | _ => .no
theorem okI_W {tg e : Expr} {f : Sx → Re Sl} (he : OkE π G e f) : OkI π G tg e (itW f) := .mk fun δ s Φ hs h => okI_seq he δ s Φ hs (by
  unfold itW at h
  unfold itF
  cases e1 : f s with
  | no => rw [e1] at h; exact h.elim
  | ex x s1 => rw [e1] at h; exact h
  | ok r s1 =>
    rw [e1] at h
    have h : (match fastS r with | some (.lst ds) => Re.ok ds s1 | some (.tup ds) => .ok ds s1 | _ => .no : Re (List D)).to _ _ := h
    show (match fastS r with | some d => (match seqD d with | some ds => Re.ok ds s1 | none => .no) | none => .no : Re (List D)).to _ _
    cases e2 : fastS r with
    | none => rw [e2] at h; exact h.elim
    | some d =>
      rw [e2] at h
      cases d <;> first | exact h | exact h.elim)
structure OkIW (π : Pi) (G : Gx) (tg e : Expr) (f : Sx → Re (List D)) : Prop where
  run : ∀ δ s Φ, Ers π δ s → (f s).to (fun r s' => ∀ δ', Ers π δ' s' → Sm δ δ' → Φ r.length (fun i d => r[i]? = some d) δ') (GX π G) → diW G tg e δ Φ
theorem okIW_W {tg e : Expr} {f : Sx → Re Sl} (he : OkE π G e f) : OkIW π G tg e (itW f) := .mk fun δ s Φ hs h => diW_seq (he δ s _ hs (Re.to_mono (Re.to_bind h) (fun r s1 h1 r' δ1 er e1 m1 => by
  have h1 : (match fastS r with | some (.lst ds) => Re.ok ds s1 | some (.tup ds) => .ok ds s1 | _ => .no : Re (List D)).to _ _ := h1
  cases e2 : fastS r with
  | none => rw [e2] at h1; exact h1.elim
  | some d =>
    rw [e2] at h1
    cases d with
    | lst as => exact ⟨_, as, fastS_ok er e2, .lst, h1 δ1 e1 m1⟩
    | tup as => exact ⟨_, as, fastS_ok er e2, .tup, h1 δ1 e1 m1⟩
    | _ => exact h1.elim) fun x s1 h1 => h1))
theorem okE_lcW {elt tg iter : Expr} {scope : Scope} {own : List (Str × Nat)} {js : List Nat} {g : D → Sx → Option Sx} {it : Sx → Re (List D)} {e : Sx → Re Sl} (hN : G.X.N.Nodup) (hot : Zh.HotW G.X) (hg : ∀ s H C cl fp, OkG π (G.blk scope s H C cl fp) tg js g) (hi : OkIW π G tg iter it)
    (he : ∀ s H C cl fp, Zh.Lv (G.X.blk s H scope (compEnvC scope cl C G.X.env) fp) → OkE π (G.blk scope s H C cl fp) elt e)
    (ok : blkC G.X.N G.X.env.scope scope own = true := by rfl) (hjs : ∀ j ∈ js, j ∈ own.map (·.2) := by decide) (hs' : ∀ x, foldedSetIterable iter G.X.env x = pure x := by exact fun _ => rfl) : OkE π G (.ListComp elt [⟨tg, iter, [], 0⟩] scope pos) (lcF (own.map (·.2)) g it none e) := .mk fun δ s Φ hs h =>
  de_lcW (own := own) (hi.run δ s _ hs (Re.to_mono (lc_go (δ := δ) h) (fun ds s1 ⟨hl, xs, s2, h2, h3⟩ δ1 e1 m1 => ⟨_, lc_ok hjs hg .nil he e1 m1 hl h2 fun δ2 e2 m2 p => h3 _ _ .o e2 m2⟩) fun x s1 h1 => h1)) hot hN (blkOk_by ok) hs'
theorem hotB {X : Cx} (c : X.calm = false) (l : Zh.Lv X) : Zh.HotW X := by
  rcases l with h | h
  · rw [c] at h; cases h
  · exact h
theorem okE_callH {k j n : Nat} {x : Str} {p : Pos} {F : List D → Rc} {e : Expr} {es : List Expr} {a : Sx → Re (List Ag)} (C : CalH G.X.prog G.X.w G.X.K G.X.mg G.X.base j x n (specP F)) (hr : RoomH k G.X.A) (hj : j ≤ k) (hot : Zh.HotW G.X) (tk : L2N.Takes G.X G.W) (ha : OkA π G (e :: es) a) (hg : Gl G.X x := by rfl)
    (hp : PA G.X (e :: es) (wes G.X (e :: es)) := by repeat (first | exact pa_nil | refine pa_cons PE.of ?_)) (hdb : (x == ("__debug__" : Str)) = false := by decide) (he : starEach (e :: es) G.X.env = (false, eval e G.X.env) :: starEach es G.X.env := by rfl) (hpl : (backTo pos (starEach es G.X.env)).any (·.1) = false := by rfl) :
    OkE π G (.Call (.Name x p) (e :: es) [] pos) (callP n F a) := .mk fun δ s Φ hs h => by
  obtain ⟨f, fd, ps, Fn, hl, hm, hk, hb⟩ := C.ex
  subst hl
  exact de_callQ (Zh.pe_callW (E := fun σ => WE G.W σ) Fn (hr.mono hj) hot hg hm hk hb (fun σ => L2N.passAt tk σ) hp hdb he hpl) (callP_ok ha hs h)
/-- where an exception has been caught -/
theorem hot_suite {a : Addr} {oe : Obj} {pn : List (Addr × Obj)} {x : Exn} {d : Option Addr} (c : Caught x a oe d) : Zh.HotW (G.suite a oe pn).X := by
  obtain ⟨vs, hd⟩ := c.f
  exact Zh.HotW.of ⟨(a, oe), ⟨rfl, vs, hd, c.z.2.2 vs hd⟩, List.mem_cons_self ..⟩
end
section
variable [CA] {P : Program} {w : World} {K : PySem.W.Frag} {mg : Str → Option Value} {base : Heap}
theorem fnPH {x qual : Str} {st : Stmt} {f : Addr} {fd : FuncData} {N ps : List Str} {k : Nat} {body : Sx → Rs} (F : Fun K x qual st f fd) (Sc : FnScope N ps (defScope st)) (hN : ps.length ≤ N.length)
    (hbody : ∀ (π : Pi) (cdv : Value) (A : Around) (outer : List PySem.Env) (s : Shared) (H : Hp) (E : XK) (p : Addr × Obj) (Ξ : Exn → Prop), RoomH k (A.deeper (envOfC qual (defScope st) s.heap.objs.size f cdv)) → Zh.HotW (hX P w K mg base N qual st f cdv A outer s H E p) → OkB π ⟨hX P w K mg base N qual st f cdv A outer s H E p, fW E, fun x _ => Ξ x⟩ (defBody st) body) :
    FnH P w K mg base (L2N.CX P w) (k + 1) f fd ps (spP K ps.length (specP (runP N.length body))) :=
  fn_PH F Sc hN fun cdv A outer s H E p ds Ψ Ξ hot hr hl hS => by
    refine hbody ⟨0, 0, 0, ⟨0, [], []⟩⟩ cdv A outer s H E p Ξ hr hot _ _ _ ((Ers.vals ds).app (Ers.nos _)) ?_
    unfold specP runP at hS
    cases e : body (ds.map .v ++ List.replicate (N.length - ds.length) .no) with
    | nx s1 => rw [e] at hS; exact fun δ' a => hS _ fun _ => .v
    | rt r s1 =>
      rw [e] at hS
      intro r' δ' er a
      cases r with
      | no => exact hS.elim
      | x _ => exact hS.elim
      | v d => exact okR_of er (by simp) (hS _ (untag_ok (by simp) er))
      | o t c => exact okR_of er (by simp) (hS _ (untag_ok (by simp) er))
    | bk s1 => rw [e] at hS; exact hS.elim
    | ct s1 => rw [e] at hS; exact hS.elim
    | ex x s1 => rw [e] at hS; exact fun δ' a => hS
    | no => rw [e] at hS; exact hS.elim
theorem fnPH0 {k n : Nat} {f : Addr} {fd : FuncData} {ps : List Str} (h : ps.length = n := by rfl) : FnH P w K mg base (L2N.CX P w) k f fd ps (spP K n (specP fun _ => .no)) :=
  ⟨fun vs H Q E g => by rw [h]; exact g.1, fun A outer s H args us vs Q E p _ _ _ _ _ _ g => by
    obtain ⟨_, I, ds, Ψ, Ξ, _, _, hS, _⟩ := g
    exact hS.elim⟩
end
end Zf
/-! Written constants; instances of one's own classes. -/
namespace Zf
open PySem PySem.Spec L2 Zd
open PyProof.Rows (envOfC)
/-! ### written tuples -/
mutual
def conB (K : PySem.W.Frag) : D → Value → Bool
  | .non, .none => true
  | .bl b, .bool c => b == c
  | .int i, .int j _ => decide (i = j)
  | .str x, .str y _ => decide (x = y)
  | .tup ds, .ref a =>
    match K.lookup a with
    | some ⟨.type c, _, .seq its _, _⟩ => decide (c = "tuple") && (decide (its.size ≤ sizeLine) && conBs K ds its.toList)
    | _ => false
  | _, _ => false
def conBs (K : PySem.W.Frag) : List D → List Value → Bool
  | [], [] => true
  | d :: ds, u :: us => conB K d u && conBs K ds us
  | _, _ => false
end
mutual
theorem conB_ok {K : PySem.W.Frag} : ∀ (d : D) (u : Value), conB K d u = true → ∃ v, RelV v u ∧ ∀ I, Rep K I d v
  | .non, u, h => by
    cases u <;> first | exact ⟨.non, rfl, fun _ => rfl⟩ | cases h
  | .bl b, u, h => by
    cases u with
    | bool c =>
      have e : b = c := eq_of_beq h
      subst e
      exact ⟨.bl b, rfl, fun _ => rfl⟩
    | _ => cases h
  | .int i, u, h => by
    cases u with
    | int j t =>
      have e : i = j := of_decide_eq_true h
      subst e
      exact ⟨.int i, ⟨t, rfl⟩, fun _ => rfl⟩
    | _ => cases h
  | .str x, u, h => by
    cases u with
    | str y t =>
      have e : x = y := of_decide_eq_true h
      subst e
      exact ⟨.str x, ⟨t, rfl⟩, fun _ => rfl⟩
    | _ => cases h
  | .tup ds, u, h => by
    cases u with
    | ref a =>
      have h : (match K.lookup a with
        | some ⟨.type c, _, .seq its _, _⟩ => decide (c = "tuple") && (decide (its.size ≤ sizeLine) && conBs K ds its.toList)
        | _ => false) = true := h
      split at h
      · rename_i c dd its n sl q
        obtain ⟨h1, h2⟩ := He.ba h
        obtain ⟨h3, h4⟩ := He.ba h2
        obtain ⟨xs, r1, r2⟩ := conBs_ok ds its.toList h4
        exact ⟨.ref a, rfl, fun I => ⟨a, xs, rfl, .inr ⟨_, its, n, q, congrArg Value.type (of_decide_eq_true h1), rfl, of_decide_eq_true h3, r1⟩, r2 I⟩⟩
      · cases h
    | _ => cases h
  | .raw _, u, h => by cases u <;> cases h
  | .lst _, u, h => by cases u <;> cases h
  | .klst _, u, h => by cases u <;> cases h
  | .dic _ _, u, h => by cases u <;> cases h
  | .obj _ _ _, u, h => by cases u <;> cases h
  | .xex _ _ _ _, u, h => by cases u <;> cases h
theorem conBs_ok {K : PySem.W.Frag} : ∀ (ds : List D) (us : List Value), conBs K ds us = true → ∃ vs, Vals vs us ∧ ∀ I, Reps K I ds vs
  | [], [], _ => ⟨[], .nil, fun _ => rfl⟩
  | [], _ :: _, h => by cases h
  | _ :: _, [], h => by cases h
  | d :: ds, u :: us, h => by
    obtain ⟨h1, h2⟩ := He.ba (show (conB K d u && conBs K ds us) = true from h)
    obtain ⟨v, a1, a2⟩ := conB_ok d u h1
    obtain ⟨vs, b1, b2⟩ := conBs_ok ds us h2
    exact ⟨v :: vs, .cons a1 b1, fun I => Reps.cons (a2 I) (b2 I)⟩
end
/-- a global that stands for data -/
def GCon (K : PySem.W.Frag) (mg : Str → Option Value) (x : Str) (d : D) : Prop := ∃ u v, mg x = some u ∧ RelV v u ∧ ∀ I, Rep K I d v
def gcoB (x : Str) (d : D) : PySem.W.Frag → Bool := fun K => (He.Fa.glo x).ok K && conB K d (.ref (He.ga K x))
theorem gcoB_ok {K : PySem.W.Frag} {h : Heap} {mg : Str → Option Value} {x : Str} {d : D} (X : K.In h) (G : h.Ns mainGlobals mg) (c : gcoB x d K = true) : GCon K mg x d := by
  obtain ⟨h1, h2⟩ := He.ba (show ((He.Fa.glo x).ok K && conB K d (.ref (He.ga K x))) = true from c)
  obtain ⟨v, a1, a2⟩ := conB_ok d _ h2
  exact ⟨_, v, He.glo_ok X G h1, a1, a2⟩
section
variable [CA] {π : Pi} {G : Gx} {pos : Pos}
theorem gv_con {x : Str} {d : D} (h : GCon G.X.K G.X.mg x d) : Gv G x d := by
  obtain ⟨u, v, h1, h2, h3⟩ := h
  exact ⟨v, u, h1, h2, h3⟩
/-! ### instances: fields -/
/-- what the classes have: tab c f: instances of the class c may have a field f -/
structure OS (K : PySem.W.Frag) (tab : Nat → Str → Bool) : Prop where
  fl : ∀ c f, tab c f = true → Cls K (CA.at_ c) ∧ NoAttr K (CA.at_ c) f
open Classical in
/-- x.f, x of the class c -/
noncomputable def pFld (c : Nat) (f : Str) : List D → Option Sl
  | [.obj C ks ds] => if C = CA.at_ c then (fldD f ks ds).map .v else none
  | _ => none
theorem pFld_ok {tab : Nat → Str → Bool} {c : Nat} {f : Str} (O : OS G.X.K tab) (ht : tab c f = true) : PrimOk G (R1l (rFld G.X.K f)) (pFld c f) := fun ds r e => by
  unfold pFld at e
  split at e
  · rename_i C ks ds
    split at e
    · rename_i hc
      subst hc
      obtain ⟨h1, h2⟩ := O.fl c f ht
      cases e1 : fldD f ks ds with
      | none => rw [e1] at e; cases e
      | some d =>
        rw [e1] at e
        cases e
        exact dr_fld h1 h2 e1 fun _ => .v
    · cases e
  · cases e
theorem okE_fld {tab : Nat → Str → Bool} {c : Nat} {f : Str} {e : Expr} {g : Sx → Re (List Ag)} (O : OS G.X.K tab) (ht : tab c f = true) (ha : OkA π G [e] g) (hb : attributeBase e f G.X.env (eval e G.X.env) = eval e G.X.env := by rfl) : OkE π G (.Attribute e f pos) (opF (pFld c f) g) := .mk fun δ s Φ hs h =>
  de_fld (asked_of ha (pFld_ok O ht) hs h) hb
open Classical in
/-- x.f, x a slot that owns its instance -/
noncomputable def fldS (c : Nat) (f : Str) (i : Nat) : Sx → Re Sl := fun s =>
  match s[i]? with
  | some (.o _ (.obj C ks ds)) => if C = CA.at_ c then (match fldD f ks ds with | some d => .ok (.v d) s | none => .no) else .no
  | _ => .no
theorem okE_fldS {tab : Nat → Str → Bool} {c : Nat} {f y : Str} {i : Nat} {py : Pos} (O : OS G.X.K tab) (ht : tab c f = true) (hi : Nth G.X.N i y) (hv : Vis G.X.env.scope y := by first | exact .inl rfl | exact .inr (.inl rfl) | exact .inr (.inr rfl))
    (hd : (y == ("__debug__" : Str)) = false := by decide) (hcd : (y == ("__classdict__" : Str)) = false := by decide)
    (hb : attributeBase (.Name y py) f G.X.env (eval (.Name y py) G.X.env) = eval (.Name y py) G.X.env := by rfl) : OkE π G (.Attribute (.Name y py) f pos) (fldS c f i) := .mk fun δ s Φ hs h => by
  unfold fldS at h
  split at h
  · rename_i t C ks ds e0
    obtain ⟨z, hz, er⟩ := hs.get e0
    obtain ⟨q, hq⟩ := er.own
    subst hq
    split at h
    · rename_i hc
      subst hc
      obtain ⟨h1, h2⟩ := O.fl c f ht
      cases e1 : fldD f ks ds with
      | none => rw [e1] at h; exact h.elim
      | some d =>
        rw [e1] at h
        exact de_fldO hi hz h1 h2 e1 (h _ _ .v hs Sm.refl) hv hd hcd hb
    · exact h.elim
  · exact h.elim
open Classical in
/-- x.f = e -/
noncomputable def stA (c : Nat) (f : Str) (i : Nat) (e : Sx → Re Sl) : Sx → Rs := fun s =>
  match s[i]? with
  | some (.o _ _) => (e s).st fun r s1 =>
    match fastS r, s1[i]? with
    | some d, some (.o t (.obj C ks ds)) => if C = CA.at_ c ∧ ks.length < 1000 then .nx (s1.set i (.o t (.obj C (putK f ks) (putDs f d ks ds)))) else .no
    | _, _ => .no
  | _ => .no
theorem okS_stA {tab : Nat → Str → Bool} {c : Nat} {f y : Str} {i : Nat} {py ps' : Pos} {e : Expr} {g : Sx → Re Sl} (O : OS G.X.K tab) (ht : tab c f = true) (hi : Nth G.X.N i y) (he : OkE π G e g) (hv : Vis G.X.env.scope y := by first | exact .inl rfl | exact .inr (.inl rfl) | exact .inr (.inr rfl))
    (hs' : swapsWith e (some (.Attribute (.Name y py) f ps')) pos.line G.X.env = pure false := by rfl)
    (hd : (y == ("__debug__" : Str)) = false := by decide) (hcd : (y == ("__classdict__" : Str)) = false := by decide) : OkS π G (.Assign [.Attribute (.Name y py) f ps'] e pos) (stA c f i g) := .mk fun δ s E hs h => by
  unfold stA at h
  split at h
  · rename_i t c e0
    obtain ⟨z, hz, er⟩ := hs.get e0
    obtain ⟨q, hq⟩ := er.own
    subst hq
    refine ds_fld hi hz (he δ s _ hs (Re.to_mono (Re.st_to h) (fun r s1 h1 r' δ1 er1 e1 m1 => ?_) fun x s1 h1 => h1)) hv hs' hd hcd
    split at h1
    · rename_i d t2 C ks ds e2 e3
      obtain ⟨z1, hz1, er3⟩ := e1.get e3
      obtain ⟨q1, hq1⟩ := er3.own
      subst hq1
      obtain ⟨c2, hc2⟩ := m1 _ _ _ hz1
      rw [hz] at hc2
      cases hc2
      split at h1
      · rename_i hc
        obtain ⟨g1, g2⟩ := O.fl _ f ht
        rw [← hc.1] at g1 g2
        exact ⟨d, C, ks, ds, fastS_ok er1 e2, hz1, g1, g2, hc.2, h1 _ (e1.set i er3.cell)⟩
      · exact h1.elim
    · exact h1.elim
  · exact h.elim
end
/-! ### instances: made, their methods called -/
structure CalMk [CA] (P : Program) (w : World) (K : PySem.W.Frag) (mg : Str → Option Value) (base : Heap) (j : Nat) (x : Str) (c : Nat) (n : Nat) (S : MSp) : Prop where
  ex : ∃ f fd ps, Mk K (CA.at_ c) f ∧ FnOk P w K mg base (L2N.CX P w) j f fd ps (spM K ps.length S) ∧ ps.length = n ∧ mg x = some (.ref (CA.at_ c)) ∧ Binds K fd ps []
structure CalMe [CA] (P : Program) (w : World) (K : PySem.W.Frag) (mg : Str → Option Value) (base : Heap) (j : Nat) (c : Nat) (m : Str) (n : Nat) (S : PSp) : Prop where
  ex : ∃ f fd ps, FnOk P w K mg base (L2N.CX P w) j f fd ps (spP K ps.length S) ∧ ps.length = n ∧ Cls K (CA.at_ c) ∧ Meth K (CA.at_ c) m f ∧ Binds K fd ps []
structure CalMeM [CA] (P : Program) (w : World) (K : PySem.W.Frag) (mg : Str → Option Value) (base : Heap) (j : Nat) (c : Nat) (m : Str) (n : Nat) (S : MSp) : Prop where
  ex : ∃ f fd ps, FnOk P w K mg base (L2N.CX P w) j f fd ps (spM K ps.length S) ∧ ps.length = n ∧ Cls K (CA.at_ c) ∧ Meth K (CA.at_ c) m f ∧ Binds K fd ps []
section
variable [CA] {π : Pi} {G : Gx} {pos : Pos}
/-- C(e, ..) -/
def mkF (c n : Nat) (F : Cell → List D → RcM) (a : Sx → Re (List Ag)) : Sx → Re Sl := fun s => (a s).bind fun as s1 =>
  match allV as with
  | some ds =>
    if ds.length + 1 = n then
      match F (.obj (CA.at_ c) [] []) ds with
      | .ok (.v .non) c' => .ok (.o 0 c') s1
      | .ex x _ => .ex x s1
      | _ => .no
    else .no
  | none => .no
theorem okE_make {k j c n : Nat} {x : Str} {p : Pos} {F : Cell → List D → RcM} {e : Expr} {es : List Expr} {a : Sx → Re (List Ag)} (C : CalMk G.X.prog G.X.w G.X.K G.X.mg G.X.base j x c n (specM F)) (hr : Room k G.X.A) (hj : j + 1 ≤ k) (tk : L2N.Takes G.X G.W) (ha : OkA π G (e :: es) a) (hg : Gl G.X x := by rfl)
    (hp : PA G.X (e :: es) (wes G.X (e :: es)) := by repeat (first | exact pa_nil | refine pa_cons PE.of ?_)) (hdb : (x == ("__debug__" : Str)) = false := by decide) (he : starEach (e :: es) G.X.env = (false, eval e G.X.env) :: starEach es G.X.env := by rfl) (hpl : (backTo pos (starEach es G.X.env)).any (·.1) = false := by rfl) :
    OkE π G (.Call (.Name x p) (e :: es) [] pos) (mkF c n F a) := .mk fun δ s Φ hs h => by
  obtain ⟨f, fd, ps, M, FO, hn, hm, hb⟩ := C.ex
  refine de_make M FO hm hb (ha δ s _ hs (Re.to_mono (Re.to_bind h) (fun as s1 h1 δ1 e1 m1 => ?_) fun x s1 h1 => h1)) hr hj tk hg hp hdb he hpl
  split at h1
  · rename_i ds e2
    by_cases hl : ds.length + 1 = n
    · rw [if_pos hl] at h1
      refine ⟨ds, (allV_ok e2).eq, by rw [hn]; exact hl, ?_⟩
      unfold specM
      cases e3 : F (.obj (CA.at_ c) [] []) ds with
      | no => rw [e3] at h1; exact h1.elim
      | ex x c' => rw [e3] at h1; exact h1 δ1 e1
      | ok r c' =>
        rw [e3] at h1
        cases r with
        | v d =>
          cases d with
          | non => exact fun r' er => ⟨(er π).val, fun p => h1 _ _ .o e1 m1⟩
          | _ => exact h1.elim
        | _ => exact h1.elim
    · rw [if_neg hl] at h1; exact h1.elim
  · exact h1.elim
open Classical in
/-- o.m(e, ..), m of the class c -/
noncomputable def meF (c : Nat) (m : Str) (n : Nat) (F : List D → Rc) (o : Sx → Re Sl) (a : Sx → Re (List Ag)) : Sx → Re Sl := fun s => (o s).bind fun r s1 =>
  match fastS r with
  | some (.obj C ks vs) =>
    if C = CA.at_ c ∧ m ∉ ks then (a s1).bind fun as s2 =>
      match look s2 as with
      | none => .no
      | some (ds, b) =>
        if ds.length + 1 = n then
          match F (.obj C ks vs :: ds) with
          | .ok r => if (b && !flatS r) = true then .no else .ok r s2
          | .ex x => if (b && !flatDs x.ds) = true then .no else .ex x s2
          | .no => .no
        else .no
    else .no
  | _ => .no
theorem okE_meth {k j c n : Nat} {m : Str} {apos : Pos} {pl : Sem Bool} {F : List D → Rc} {o e : Expr} {es : List Expr} {f : Sx → Re Sl} {a : Sx → Re (List Ag)} (C : CalMe G.X.prog G.X.w G.X.K G.X.mg G.X.base j c m n (specP F)) (hr : Room k G.X.A) (hj : j ≤ k) (tk : L2N.Takes G.X G.W) (ho : OkE π G o f) (ha : OkA π G (e :: es) a)
    (hp : PA G.X (e :: es) (wes G.X (e :: es)) := by repeat (first | exact pa_nil | refine pa_cons PE.of ?_)) (he : starEach (e :: es) G.X.env = (false, eval e G.X.env) :: starEach es G.X.env := by rfl) (hpl : (backTo pos (starEach es G.X.env)).any (·.1) = false := by rfl)
    (ht : eval (.Call (.Attribute o m apos) (e :: es) [] pos) G.X.env = (do
      let ov ← eval o G.X.env
      standAt apos.atName
      let (f, first) ← holding [ov] (getMethod ov m pl)
      callWith pos f first (backTo pos (starEach (e :: es) G.X.env)) (backToKw pos (keywordEach [] G.X.env))) := by rfl) :
    OkE π G (.Call (.Attribute o m apos) (e :: es) [] pos) (meF c m n F f a) := .mk fun δ s Φ hs h => by
  obtain ⟨fa, fd, ps, FO, hn, hc, hM, hb⟩ := C.ex
  refine de_meth FO hc hM hb (ho δ s _ hs (Re.to_mono (Re.to_bind h) (fun r s1 h1 r' δ1 er e1 m1 => ?_) fun x s1 h1 => h1)) hr hj tk hp he hpl ht
  split at h1
  · rename_i C ks vs e2
    split at h1
    · rename_i hcm
      obtain ⟨rfl, hk⟩ := hcm
      refine ⟨ks, vs, fastS_ok er e2, hk, ha δ1 s1 _ e1 (Re.to_mono (Re.to_bind h1) (fun as s2 h2 δ2 e3 m2 => ?_) fun x s2 h2 => h2)⟩
      cases e4 : look s2 as with
      | none => rw [e4] at h2; exact h2.elim
      | some z =>
        obtain ⟨ds, b⟩ := z
        rw [e4] at h2
        dsimp only at h2
        by_cases hl : ds.length + 1 = n
        · rw [if_pos hl] at h2
          refine ⟨ds, b, look_ok e3 e4, by rw [hn]; exact hl, ?_⟩
          unfold specP
          cases e5 : F (.obj (CA.at_ c) ks vs :: ds) with
          | no => rw [e5] at h2; exact h2.elim
          | ok r =>
            rw [e5] at h2
            dsimp only at h2 ⊢
            by_cases hb : (b && !flatS r) = true
            · rw [if_pos hb] at h2; exact h2.elim
            · rw [if_neg hb] at h2
              intro r' er
              refine ⟨fun hbt => ?_, h2 r' δ2 (er π) e3 (m1.trans m2)⟩
              refine flatS_ok (er π) ?_
              subst hbt
              simpa using hb
          | ex x =>
            rw [e5] at h2
            dsimp only at h2 ⊢
            by_cases hb : (b && !flatDs x.ds) = true
            · rw [if_pos hb] at h2; exact h2.elim
            · rw [if_neg hb] at h2
              refine ⟨fun hbt => ?_, h2 δ2 e3⟩
              subst hbt
              show flatDs x.ds = true
              simpa using hb
        · rw [if_neg hl] at h2; exact h2.elim
    · exact h1.elim
  · exact h1.elim
open Classical in
noncomputable def meF0 (c : Nat) (m : Str) (F : List D → Rc) (o : Sx → Re Sl) : Sx → Re Sl := fun s => (o s).bind fun r s1 =>
  match fastS r with
  | some (.obj C ks vs) =>
    if C = CA.at_ c ∧ m ∉ ks then
      match F [.obj C ks vs] with
      | .ok r => .ok r s1
      | .ex x => .ex x s1
      | .no => .no
    else .no
  | _ => .no
theorem okE_meth0 {k j c : Nat} {m : Str} {apos : Pos} {pl : Sem Bool} {F : List D → Rc} {o : Expr} {f : Sx → Re Sl} (C : CalMe G.X.prog G.X.w G.X.K G.X.mg G.X.base j c m 1 (specP F)) (hr : Room k G.X.A) (hj : j ≤ k) (tk : L2N.Takes G.X G.W) (ho : OkE π G o f)
    (ht : eval (.Call (.Attribute o m apos) [] [] pos) G.X.env = (do
      let ov ← eval o G.X.env
      standAt apos.atName
      let (f, first) ← holding [ov] (getMethod ov m pl)
      callWith pos f first (backTo pos (starEach [] G.X.env)) (backToKw pos (keywordEach [] G.X.env))) := by rfl) :
    OkE π G (.Call (.Attribute o m apos) [] [] pos) (meF0 c m F f) := .mk fun δ s Φ hs h => by
  obtain ⟨fa, fd, ps, FO, hn, hc, hM, hb⟩ := C.ex
  refine de_meth0 FO hc hM hb (ho δ s _ hs (Re.to_mono (Re.to_bind h) (fun r s1 h1 r' δ1 er e1 m1 => ?_) fun x s1 h1 => h1)) hr hj tk ht
  split at h1
  · rename_i C ks vs e2
    split at h1
    · rename_i hcm
      obtain ⟨rfl, hk⟩ := hcm
      refine ⟨ks, vs, fastS_ok er e2, hk, hn.symm, ?_⟩
      unfold specP
      cases e5 : F [.obj (CA.at_ c) ks vs] with
      | no => rw [e5] at h1; exact h1.elim
      | ok r => rw [e5] at h1; exact fun r' er => ⟨fun z => (by cases z), h1 r' δ1 (er π) e1 m1⟩
      | ex x => rw [e5] at h1; exact ⟨fun z => (by cases z), h1 δ1 e1⟩
    · exact h1.elim
  · exact h1.elim
end
/-! ### instances: len, in, ==, isinstance -/
/-- a method asked by a builtin: it raises nothing there -/
structure CalSp [CA] (P : Program) (w : World) (K : PySem.W.Frag) (mg : Str → Option Value) (base : Heap) (j : Nat) (c : Nat) (m : Str) (n : Nat) (S : PSp) : Prop where
  ex : ∃ f fd ps, FnOk P w K mg base (L2N.CX P w) j f fd ps (spP K ps.length S) ∧ ps.length = n ∧ PySem.W.findIn K (.ref (CA.at_ c)) m = some (some (.ref f)) ∧ PySem.W.isFn K (.ref f) = true ∧ Binds K fd ps []
theorem CalMe.sp [CA] {P : Program} {w : World} {K : PySem.W.Frag} {mg : Str → Option Value} {base : Heap} {j c : Nat} {m : Str} {n : Nat} {S : PSp} (C : CalMe P w K mg base j c m n S) : CalSp P w K mg base j c m n S := by
  obtain ⟨f, fd, ps, h1, h2, h3, h4, h5⟩ := C.ex
  exact ⟨⟨f, fd, ps, h1, h2, h4.at_, h4.fn, h5⟩⟩
section
variable [CA] {π : Pi} {G : Gx} {pos : Pos}
open Classical in
noncomputable def pLenO (c : Nat) (F : List D → Rc) (p : List D → Option Sl) : List D → Option Sl := fun ds =>
  match ds with
  | [.obj C ks vs] =>
    if C = CA.at_ c then
      match F [.obj C ks vs] with
      | .ok (.v (.int n)) => if 0 ≤ n ∧ n < 2 ^ 63 then some (.v (.int n)) else none
      | _ => none
    else p [.obj C ks vs]
  | ds => p ds
theorem pLenO_ok {j k c : Nat} {F : List D → Rc} {p : List D → Option Sl} (C : CalSp G.X.prog G.X.w G.X.K G.X.mg G.X.base j c "__len__" 1 (specP F)) (hr : Room k G.X.A) (hj : j + 1 ≤ k) (hp : PrimOk G (wcall G.X (.builtin "len")) p) : PrimOk G (wcall G.X (.builtin "len")) (pLenO c F p) := fun ds r e => by
  unfold pLenO at e
  split at e
  · rename_i C0 ks vs
    split at e
    · rename_i hC
      subst hC
      split at e
      · rename_i n e2
        split at e
        · rename_i hn
          cases e
          obtain ⟨f, fd, ps, FO, hl, hs, hf, hb⟩ := C.ex
          refine dr_lenO FO hs hf hb (hr.mono hj) hl.symm ?_
          unfold specP
          rw [e2]
          exact fun r' er => ⟨n, (er ⟨0, 0, 0, ⟨0, [], []⟩⟩).val, hn, fun _ => .v⟩
        · cases e
      · cases e
    · exact hp _ _ e
  · exact hp _ _ e
open Classical in
noncomputable def pInO (c : Nat) (F : List D → Rc) (p : List D → Option Sl) : List D → Option Sl := fun ds =>
  match ds with
  | [x, .obj C ks vs] =>
    if C = CA.at_ c then
      match F [.obj C ks vs, x] with
      | .ok (.v (.bl b)) => some (.v (.bl b))
      | _ => none
    else p [x, .obj C ks vs]
  | ds => p ds
theorem pInO_ok {j k c : Nat} {F : List D → Rc} {p : List D → Option Sl} (C : CalSp G.X.prog G.X.w G.X.K G.X.mg G.X.base j c "__contains__" 2 (specP F)) (hr : Room k G.X.A) (hj : j ≤ k) (hp : PrimOk G (R2l (wop G.X (compareOp .In))) p) : PrimOk G (R2l (wop G.X (compareOp .In))) (pInO c F p) := fun ds r e => by
  unfold pInO at e
  split at e
  · rename_i x C0 ks vs
    split at e
    · rename_i hC
      subst hC
      split at e
      · rename_i b e2
        cases e
        obtain ⟨f, fd, ps, FO, hl, hs, hf, hb⟩ := C.ex
        refine dr_inO FO hs hf hb (hr.mono hj) hl.symm ?_
        unfold specP
        rw [e2]
        exact fun r' er => ⟨b, (er ⟨0, 0, 0, ⟨0, [], []⟩⟩).val, fun _ => .v⟩
      · cases e
    · exact hp _ _ e
  · exact hp _ _ e
open Classical in
noncomputable def pEqO (c : Nat) (F : List D → Rc) (p : List D → Option Sl) : List D → Option Sl := fun ds =>
  match ds with
  | [.obj C ks vs, .obj C' ks' vs'] =>
    if C = CA.at_ c ∧ C' = CA.at_ c then
      match F [.obj C ks vs, .obj C' ks' vs'] with
      | .ok (.v (.bl b)) => some (.v (.bl b))
      | _ => none
    else p [.obj C ks vs, .obj C' ks' vs']
  | ds => p ds
theorem pEqO_ok {j k c : Nat} {F : List D → Rc} {p : List D → Option Sl} (C : CalSp G.X.prog G.X.w G.X.K G.X.mg G.X.base j c "__eq__" 2 (specP F)) (hr : Room k G.X.A) (hj : j ≤ k) (hp : PrimOk G (R2l (wop G.X (compareOp .Eq))) p) : PrimOk G (R2l (wop G.X (compareOp .Eq))) (pEqO c F p) := fun ds r e => by
  unfold pEqO at e
  split at e
  · rename_i C0 ks vs C1 ks' vs'
    split at e
    · rename_i hC
      obtain ⟨rfl, rfl⟩ := hC
      split at e
      · rename_i b e2
        cases e
        obtain ⟨f, fd, ps, FO, hl, hs, hf, hb⟩ := C.ex
        refine dr_eqO FO hs hf hb (hr.mono hj) hl.symm ?_
        unfold specP
        rw [e2]
        exact fun r' er => ⟨b, (er ⟨0, 0, 0, ⟨0, [], []⟩⟩).val, fun _ => .v⟩
      · cases e
    · exact hp _ _ e
  · exact hp _ _ e
/-- isinstance(o, C') -/
structure ISO (K : PySem.W.Frag) (c c' : Nat) (b : Bool) : Prop where
  cl : Cls K (CA.at_ c)
  ha : PySem.W.findIn K (.ref (CA.at_ c)) "__class__" = some (some (.builtin "object.__class__"))
  hn : PySem.W.specialIn K (.builtin "object.__class__") "__get__" = some (some (.builtin "getset_descriptor.__get__"))
  htk : PySem.W.takesIn K (.builtin "object.__class__") = some true
  hm : PySem.W.mroIn K (CA.at_ c) (.type "object") = some true
  e : PySem.W.kitOne K (.ref (CA.at_ c)) (.ref (CA.at_ c')) = some b
open Classical in
noncomputable def pIsiO (c c' : Nat) (b : Bool) (p : List D → Option Sl) : List D → Option Sl := fun ds =>
  match ds with
  | [.obj C ks vs, .raw (.ref C')] => if C = CA.at_ c ∧ C' = CA.at_ c' then some (.v (.bl b)) else none
  | ds => p ds
theorem pIsiO_ok {c c' : Nat} {b : Bool} {p : List D → Option Sl} (O : ISO G.X.K c c' b) (hp : PrimOk G (wcall G.X (.builtin "isinstance")) p) : PrimOk G (wcall G.X (.builtin "isinstance")) (pIsiO c c' b p) := fun ds r e => by
  unfold pIsiO at e
  split at e
  · rename_i C ks vs C'
    split at e
    · rename_i hC
      obtain ⟨rfl, rfl⟩ := hC
      cases e
      exact dr_isiO O.cl O.ha O.hn O.htk O.hm (c := .ref (CA.at_ c')) rfl (fun u hu => hu) O.e fun _ => .v
    · cases e
  · exact hp _ _ e
end
end Zf
/-! Calls with keywords: f(e, .., k = v, ..), every parameter given. -/
namespace Zd
open PySem PySem.Spec L2
section
variable {X : Cx}
theorem wes_app : ∀ (as bs : List Expr) (σ : St) (H : Hp) (Q : List V → Hp → Prop), wes X (as ++ bs) σ H Q → wes X as σ H fun vs H1 => wes X bs σ H1 fun zs H2 => Q (vs ++ zs) H2
  | [], bs, σ, H, Q, h => h
  | a :: as, bs, σ, H, Q, h => we_mono h fun x H1 h1 => wes_app as bs σ H1 _ h1
theorem wes_mono' : ∀ {as : List Expr} {σ : St} {H : Hp} {Q Q' : List V → Hp → Prop}, wes X as σ H Q → (∀ vs H1, Q vs H1 → Q' vs H1) → wes X as σ H Q'
  | [], σ, H, Q, Q', h, m => m _ _ h
  | a :: as, σ, H, Q, Q', h, m => we_mono h fun x H1 h1 => wes_mono' h1 fun xs H2 q => m _ _ q
theorem wes_len : ∀ (as : List Expr) (σ : St) (H : Hp) (Q : List V → Hp → Prop), wes X as σ H Q → wes X as σ H fun vs H1 => vs.length = as.length ∧ Q vs H1
  | [], σ, H, Q, h => ⟨rfl, h⟩
  | a :: as, σ, H, Q, h => we_mono h fun x H1 h1 => wes_mono' (wes_len as σ H1 _ h1) fun xs H2 ⟨e, q⟩ => ⟨by rw [List.length_cons, e]; rfl, q⟩
theorem pk_wes : ∀ (kws : List Keyword), PK X kws (wes X (kws.map (·.value)))
  | [] => pk_nil
  | ⟨nm, e, kp⟩ :: kws => pk_cons PE.of (pk_wes kws)
variable {CX : CXT} {k n : Nat} {f : Addr} {fd : FuncData} {ps ks : List Str} {sp : Sp} {E : St → XK} {x : Str} {p pos : Pos} {e : Expr} {es : List Expr} {kws : List Keyword}
/-- a def all of whose parameters are given, n of them by place, those named ks behind them by keywords -/
def KB (K : PySem.W.Frag) (fd : FuncData) (ps : List Str) (n : Nat) (ks : List Str) : Prop := KBn K fd ps n ks (fun us ws => us ++ ws) (fun vs zs => vs ++ zs)
theorem pe_callKS (F : FnOk X.prog X.w X.K X.mg X.base CX k f fd ps sp) (hr : Room k X.A) (hg : Gl X x) (hm : X.mg x = some (.ref f)) (hk : PySem.W.keepIn X.K (.ref f) = true) (hb : KB X.K fd ps n ks) (hx : ∀ σ, PassesAt CX X σ (E σ)) (hn : (e :: es).length = n)
    (ha : PA X (e :: es) (wes X (e :: es))) (hall : (backToKw pos (keywordEach kws X.env)).all (·.1.isSome) = true := by rfl) (hks : (backToKw pos (keywordEach kws X.env)).filterMap (·.1) = ks := by rfl) (hkl : kws.length = ks.length := by rfl)
    (hdb : (x == ("__debug__" : Str)) = false := by decide) (he : starEach (e :: es) X.env = (false, eval e X.env) :: starEach es X.env := by rfl)
    (hpl : ((backTo pos (starEach (e :: es) X.env)).any (·.1) || (backToKw pos (keywordEach kws X.env)).any (·.1.isNone)) = false := by rfl) :
    PE X (.Call (.Name x p) (e :: es) kws pos) (tCallS sp E (wes X ((e :: es) ++ kws.map (·.value)))) := by
  refine ⟨fun pins s σ H Q I h => ?_⟩
  have h1 := wes_app _ _ _ _ _ h
  have h2 := wes_len _ _ _ _ h1
  refine wpAny_Call_Name_kw (ld_glob I hg hm ?_ hdb)
  refine PySem.W.callWith_KW (h₀ := X.base) I.ok.mod.kin hk hall (thn (ha.run pos pins s σ H _ I h2) fun us s1 ⟨vs, H1, I1, r, l1, q⟩ => ?_) hpl he
  have q2 := wes_len _ _ _ _ q
  refine thn ((pk_wes kws).run pos pins s1 σ H1 _ I1 q2) fun ws s2 ⟨zs, H2, I2, rz, l2, q3⟩ => ⟨I2.kIn, ?_⟩
  rw [hks]
  have r2 : Vals (vs ++ zs) (us ++ ws) := r.append rz
  refine wpAny_call (codeAny_mono (F.run X.A X.stack s2 H2 ⟨us, ks.zip ws⟩ (us ++ ws) (vs ++ zs) Q (E σ) hr I2.env0 (hb.to s2 us ws I2.kIn (r.length.symm.trans (l1.trans hn)) (rz.length.symm.trans (l2.trans (by rw [List.length_map]; exact hkl)))) r2 q3) fun r s' hq => ?_)
  cases r with
  | error e => exact hx σ pins H2 s2 e s' I2 hq
  | ok fl =>
    cases fl with
    | ret u => exact I2.after hq
    | next => exact False.elim hq
    | brk => exact False.elim hq
    | cont => exact False.elim hq
end
end Zd
namespace Zf
open PySem PySem.Spec L2 Zd
/-- a def that is called with keywords -/
structure CalK (P : Program) (w : World) (K : PySem.W.Frag) (mg : Str → Option Value) (base : Heap) (j : Nat) (x : Str) (n : Nat) (ks : List Str) (N : Nat) (S : PSp) : Prop where
  ex : ∃ f fd ps, FnOk P w K mg base (L2N.CX P w) j f fd ps (spP K ps.length S) ∧ ps.length = N ∧ mg x = some (.ref f) ∧ PySem.W.keepIn K (.ref f) = true ∧ KB K fd ps n ks
section
variable [CA] {π : Pi} {G : Gx} {pos : Pos}
theorem okE_callK {k j n N : Nat} {ks : List Str} {x : Str} {p : Pos} {F : List D → Rc} {e : Expr} {es : List Expr} {kws : List Keyword} {a : Sx → Re (List Ag)} (C : CalK G.X.prog G.X.w G.X.K G.X.mg G.X.base j x n ks N (specP F)) (hr : Room k G.X.A) (hj : j ≤ k) (tk : L2N.Takes G.X G.W) (hn : (e :: es).length = n) (ha : OkA π G ((e :: es) ++ kws.map (·.value)) a) (hg : Gl G.X x := by rfl)
    (hp : PA G.X (e :: es) (wes G.X (e :: es)) := by repeat (first | exact pa_nil | refine pa_cons PE.of ?_)) (hall : (backToKw pos (keywordEach kws G.X.env)).all (·.1.isSome) = true := by rfl) (hks : (backToKw pos (keywordEach kws G.X.env)).filterMap (·.1) = ks := by rfl) (hkl : kws.length = ks.length := by rfl)
    (hdb : (x == ("__debug__" : Str)) = false := by decide) (he : starEach (e :: es) G.X.env = (false, eval e G.X.env) :: starEach es G.X.env := by rfl)
    (hpl : ((backTo pos (starEach (e :: es) G.X.env)).any (·.1) || (backToKw pos (keywordEach kws G.X.env)).any (·.1.isNone)) = false := by rfl) :
    OkE π G (.Call (.Name x p) (e :: es) kws pos) (callP N F a) := .mk fun δ s Φ hs h => by
  obtain ⟨f, fd, ps, FO, hl, hm, hk, hb⟩ := C.ex
  subst hl
  exact de_callQ (pe_callKS (E := fun σ => WE G.W σ) FO (hr.mono hj) hg hm hk hb (fun σ => L2N.passAt tk σ) hn hp hall hks hkl hdb he hpl) (callP_ok ha hs h)
end
end Zf
/-! sorted(set(a tuple of numbers)), enumerate. -/
namespace Zd
open PySem PySem.Spec L2
section
variable {X : Cx}
def rSetT (K : PySem.W.Frag) (w : World) : List V → Hp → VK → Prop := fun vs H Q => ∃ (a : Addr) (ns : List Int), vs = [.ref a] ∧ SqT K H a (ns.map V.int) ∧ ns.length + 1 < scanBound ∧ ∀ (p : Addr) (c : Nat), H p = none → c ≤ ns.length → Q (.ref p) (upd H p (SetO w p (fun j => decide (j ∈ ns)) c))
theorem cr_setT (hc : X.calm = true) : CallR X (.type "set") (rSetT X.K X.w) := by
  intro pins s σ H xs us Q I r h
  obtain ⟨a, ns, rfl, hq, hb, q⟩ := h
  obtain ⟨its, rv, p, hz⟩ := I.tuple hq
  rw [Vals.ref1 r]
  refine call_set_tupI ns (I.ok.hd hc) (show s.heap.IsTuple a its.toArray from p) (by simpa using rv.ints) hb fun h' tk c R hcn k => ?_
  exact ⟨.ref _, _, I.laid (t' := tk) (fun b u e => k b u e) (Nat.le_refl _) (setO_new R), rfl, q _ c (I.hok.fresh (Nat.le_refl _)) hcn⟩
/-- two ascending lists of the same members -/
theorem asc_eq : ∀ {xs ys : List Int}, xs.Pairwise (· < ·) → ys.Pairwise (· < ·) → (∀ k, k ∈ xs ↔ k ∈ ys) → xs = ys
  | [], [], _, _, _ => rfl
  | [], y :: ys, _, _, h => by have := (h y).mpr (.head _); cases this
  | x :: xs, [], _, _, h => by have := (h x).mp (.head _); cases this
  | x :: xs, y :: ys, hx, hy, h => by
    obtain ⟨a1, a2⟩ := List.pairwise_cons.mp hx
    obtain ⟨b1, b2⟩ := List.pairwise_cons.mp hy
    have e : x = y := by
      rcases List.mem_cons.mp ((h x).mp (.head _)) with e | e
      · exact e
      · rcases List.mem_cons.mp ((h y).mpr (.head _)) with e2 | e2
        · exact e2.symm
        · have := b1 _ e
          have := a1 _ e2
          omega
    subst e
    congr 1
    refine asc_eq a2 b2 fun k => ⟨fun hk => ?_, fun hk => ?_⟩
    · rcases List.mem_cons.mp ((h k).mp (.tail _ hk)) with e | e
      · have := a1 _ hk
        omega
      · exact e
    · rcases List.mem_cons.mp ((h k).mpr (.tail _ hk)) with e | e
      · have := b1 _ hk
        omega
      · exact e
def wSS (K : PySem.W.Frag) : V → Hp → VK → Prop := fun x H Q => ∃ (a : Addr) (ns : List Int), x = .ref a ∧ SqT K H a (ns.map V.int) ∧ ns.Pairwise (· < ·) ∧ ns.length < 60 ∧ ∀ (ps p : Addr) (o : HO), H ps = none → p ≠ ps → H p = none → Q (.ref p) (upd (upd H ps o) p (.lst (ns.map V.int)))
theorem pe_srtset {e : Expr} {p1 p2 p3 pos : Pos} (hc : X.calm = true) (hg1 : Gl X "sorted") (hm1 : X.mg "sorted" = none) (hg2 : Gl X "set") (hm2 : X.mg "set" = none)
    (hs : starEach [e] X.env = (false, eval e X.env) :: starEach [] X.env := by rfl) (hs2 : starEach [.Call (.Name "set" p2) [e] [] p3] X.env = (false, eval (.Call (.Name "set" p2) [e] [] p3) X.env) :: starEach [] X.env := by rfl) :
    PE X (.Call (.Name "sorted" p1) [.Call (.Name "set" p2) [e] [] p3] [] pos) (fun σ H Q => we X e σ H fun x H1 => wSS X.K x H1 Q) := by
  refine ⟨fun pins s σ H Q I h => ?_⟩
  refine (pe_callB (cr_sortedSet hc) hg1 hm1 (by decide +kernel) (pa_cons (pe_callTy (cr_setT hc) hg2 hm2 (by decide +kernel) (pa_cons PE.of pa_nil hs) (he := hs)) pa_nil hs2) (he := hs2)).run pins s σ H Q I ?_
  refine we_mono h fun x H1 ⟨a, ns, ex, hq, hp, hl, q⟩ => ⟨a, ns, by rw [ex], hq, by unfold scanBound; omega, fun ps c hn hc' => ?_⟩
  refine ⟨ps, (fun j => decide (j ∈ ns)), c, rfl, upd_same, by omega, fun ns' p a1 a2 a3 hp' => ?_⟩
  have e : ns' = ns := asc_eq a1 hp fun k => by rw [a2 k, decide_eq_true_eq]
  rw [e]
  refine q ps p _ hn (fun z => ?_) ?_
  · rw [z, upd_same] at hp'; cases hp'
  · by_cases z : p = ps
    · rw [z, upd_same] at hp'; cases hp'
    · rw [upd_ne z] at hp'; exact hp'
end
section
variable {G : Gx} {δ : Env} {Φ : DV → Env → Prop} {pos : Pos}
theorem de_srtset {e : Expr} {p1 p2 p3 : Pos} (h : dgs G [e] δ (Asked G (R1l (wSS G.X.K)) Φ)) (hc : G.X.calm = true) (hg1 : Gl G.X "sorted") (hm1 : G.X.mg "sorted" = none) (hg2 : Gl G.X "set") (hm2 : G.X.mg "set" = none)
    (hs : starEach [e] G.X.env = (false, eval e G.X.env) :: starEach [] G.X.env := by rfl) (hs2 : starEach [.Call (.Name "set" p2) [e] [] p3] G.X.env = (false, eval (.Call (.Name "set" p2) [e] [] p3) G.X.env) :: starEach [] G.X.env := by rfl) :
    de G (.Call (.Name "sorted" p1) [.Call (.Name "set" p2) [e] [] p3] [] pos) δ Φ :=
  de_R (fun σ H Q h => (pe_srtset hc hg1 hm1 hg2 hm2 hs hs2).to (wes1 (r := wSS G.X.K) h)) h
theorem dr_srtset {X : Cx} {Ψ : DV → Prop} {ns : List Int} (hp : ns.Pairwise (· < ·)) (hl : ns.length < 60) (h : ∀ p, Ψ (.own p (.lst (ns.map .int)))) : DR X.K (R1l (wSS X.K)) [.tup (ns.map .int)] Ψ := dr_R1 fun I H v s r1 Q q => by
  obtain ⟨a, xs, rfl, h1, h2⟩ := r1
  cases Reps.ints h2
  refine ⟨a, ns, rfl, (s.sqU h1).t, hp, hl, fun ps p o n1 n2 n3 => ?_⟩
  have ni : I p = none := by
    cases e : I p with
    | none => rfl
    | some u => rw [s _ _ e] at n3; cases n3
  have up : ∀ {b : Addr} {u : HO}, H b = some u → upd (upd H ps o) p (.lst (ns.map V.int)) b = some u := fun {b u} hb => by
    rw [upd_ne (fun z => by rw [z, n3] at hb; cases hb), upd_ne (fun z => by rw [z, n1] at hb; cases hb)]; exact hb
  exact q (.own p (.lst (ns.map .int))) _ I _ (h p) ⟨Le.refl _, fun b u hb => up hb, fun _ _ _ h => h, fun b u hb => up (s _ _ hb), rfl, ni, n3, _, upd_same, Reps.of_ints ns⟩
end
end Zd
namespace Zf
open PySem PySem.Spec L2 Zd
section
variable [CA] {π : Pi} {G : Gx} {pos : Pos}
def pSrt : List D → Option Sl
  | [.tup ds] =>
    match asInts ds with
    | some ns => if ns.Pairwise (· < ·) ∧ ns.length < 60 then some (.o 0 (.lst (ns.map .int))) else none
    | none => none
  | _ => none
theorem pSrt_ok : PrimOk G (R1l (wSS G.X.K)) pSrt := fun ds r e => by
  unfold pSrt at e
  split at e
  · rename_i ds
    cases hs : asInts ds with
    | none => rw [hs] at e; cases e
    | some ns =>
      rw [hs] at e
      dsimp only at e
      split at e
      · rename_i h
        cases e
        cases asInts_ok hs
        exact dr_srtset h.1 h.2 fun p π => .o
      · cases e
  · cases e
theorem okE_srtset {e : Expr} {p1 p2 p3 : Pos} {g : Sx → Re (List Ag)} (hc : G.X.calm = true) (hm1 : G.X.mg "sorted" = none) (hm2 : G.X.mg "set" = none) (ha : OkA π G [e] g) (hg1 : Gl G.X "sorted" := by rfl) (hg2 : Gl G.X "set" := by rfl)
    (hs' : starEach [e] G.X.env = (false, eval e G.X.env) :: starEach [] G.X.env := by rfl) (hs2 : starEach [.Call (.Name "set" p2) [e] [] p3] G.X.env = (false, eval (.Call (.Name "set" p2) [e] [] p3) G.X.env) :: starEach [] G.X.env := by rfl) :
    OkE π G (.Call (.Name "sorted" p1) [.Call (.Name "set" p2) [e] [] p3] [] pos) (opF pSrt g) := .mk fun δ s Φ hs h =>
  de_srtset (asked_of ha pSrt_ok hs h) hc hg1 hm1 hg2 hm2 hs' hs2
/-- the pairs that enumerate gives -/
def enD : Nat → List D → List D
  | _, [] => []
  | k, d :: r => .tup [.int (k : Int), d] :: enD (k + 1) r
theorem enD_len : ∀ (k : Nat) (ds : List D), (enD k ds).length = ds.length
  | _, [] => rfl
  | k, d :: r => by rw [enD, List.length_cons, enD_len (k + 1) r, List.length_cons]
theorem enD_get : ∀ (k : Nat) (ds : List D) (i : Nat) (x : D), ds[i]? = some x → (enD k ds)[i]? = some (.tup [.int ((k + i : Nat) : Int), x])
  | _, [], i, x, h => by simp at h
  | k, d :: r, 0, x, h => by
    have : d = x := by simpa using h
    subst this
    rfl
  | k, d :: r, i + 1, x, h => by
    rw [enD, List.getElem?_cons_succ, enD_get (k + 1) r i x (by simpa using h), show k + 1 + i = k + (i + 1) by omega]
def enF (a : Sx → Re (List Ag)) : Sx → Re (List D) := fun s => (a s).bind fun as s1 =>
  match as with
  | [.v (.lst ds)] => .ok (enD 0 ds) s1
  | [.v (.tup ds)] => .ok (enD 0 ds) s1
  | _ => .no
theorem okI_enum {elts : List Expr} {kk : Nat} {tpos : Pos} {a : Expr} {p : Pos} {g : Sx → Re (List Ag)} (hm : G.X.mg "enumerate" = none) (ha : OkA π G [a] g) (hg : Gl G.X "enumerate" := by rfl) (hp : PA G.X [a] (wes G.X [a]) := by repeat (first | exact pa_nil | refine pa_cons PE.of ?_))
    (hs' : starEach [a] G.X.env = [(false, eval a G.X.env)] := by rfl) : OkI π G (.Tuple elts kk tpos) (.Call (.Name "enumerate" p) [a] [] pos) (enF g) := .mk fun δ s Φ hs h => di_mono (di_enumU (ha δ s _ hs (Re.to_mono (Re.to_bind h) (fun as s1 h1 δ1 e1 m1 => by
  split at h1
  · rename_i ds
    exact ⟨ds, .inl rfl, enD 0 ds, enD_len 0 ds, fun i d hi ⟨x, hx, hd⟩ => by rw [enD_get 0 ds i x hx, hd, Nat.zero_add], h1 δ1 e1 m1⟩
  · rename_i ds
    exact ⟨ds, .inr rfl, enD 0 ds, enD_len 0 ds, fun i d hi ⟨x, hx, hd⟩ => by rw [enD_get 0 ds i x hx, hd, Nat.zero_add], h1 δ1 e1 m1⟩
  · exact h1.elim) fun x s1 h1 => h1)) hg hm hp hs')
end
end Zf
/-! Written dicts with text keys; defs with a star parameter. -/
namespace Zf
open PySem PySem.Spec L2 Zd
open PyProof.Rows (envOfC)
/-! ### written dicts -/
def EntsOk (K : PySem.W.Frag) : List DictEntry → List Str → List D → Prop
  | [], [], [] => True
  | e :: es, k :: ks, d :: ds => (∃ t, e.key = .str k t) ∧ (∃ v, RelV v e.val ∧ ∀ I, Rep K I d v) ∧ EntsOk K es ks ds
  | _, _, _ => False
structure GDic [CA] (w : World) (K : PySem.W.Frag) (mg : Str → Option Value) (x : Str) (c : Nat) (ks : List Str) (ds : List D) : Prop where
  gl : mg x = some (.ref (CA.at_ c))
  ex : ∃ (es : Array DictEntry) (n : Nat), KDict K w (CA.at_ c) es n ∧ EntsOk K es.toList ks ds
def dgS : List Str → List D → Str → Option D
  | k :: ks, d :: ds, z => if k = z then some d else dgS ks ds z
  | _, _, _ => none
theorem isStr_eq (k z : Str) (t : Tok) : (Value.str k t).isStr z = decide (k = z) := by
  show (_ == _) = _
  by_cases h : k = z
  · subst h; simp
  · simp [h]
theorem ents_find {K : PySem.W.Frag} : ∀ {es : List DictEntry} {ks : List Str} {ds : List D}, EntsOk K es ks ds → ∀ z,
    (es.any (·.refKey) = false) ∧ (dgS ks ds z = none → es.find? (·.key.isStr z) = none) ∧ ∀ d, dgS ks ds z = some d → ∃ e v, es.find? (·.key.isStr z) = some e ∧ RelV v e.val ∧ ∀ I, Rep K I d v
  | [], [], [], _, z => ⟨rfl, fun _ => rfl, fun d h => by cases h⟩
  | e :: es, k :: ks, d :: ds, h, z => by
    obtain ⟨⟨t, hk⟩, ⟨v, h1, h2⟩, h3⟩ := h
    obtain ⟨i0, i1, i2⟩ := ents_find h3 z
    have hs : e.key.isStr z = decide (k = z) := by rw [hk]; exact isStr_eq k z t
    refine ⟨?_, fun hn => ?_, fun d' hd => ?_⟩
    · rw [List.any_cons, i0, Bool.or_false]
      unfold DictEntry.refKey
      rw [hk]
      try rfl
    · unfold dgS at hn
      split at hn
      · cases hn
      · rename_i hz
        rw [List.find?_cons, hs, decide_eq_false hz]
        exact i1 hn
    · unfold dgS at hd
      split at hd
      · rename_i hz
        cases hd
        rw [List.find?_cons, hs, decide_eq_true hz]
        exact ⟨e, v, rfl, h1, h2⟩
      · rename_i hz
        obtain ⟨e', v', g1, g2, g3⟩ := i2 d' hd
        rw [List.find?_cons, hs, decide_eq_false hz]
        exact ⟨e', v', g1, g2, g3⟩
  | [], _ :: _, _, h, _ => h.elim
  | [], [], _ :: _, h, _ => h.elim
  | _ :: _, [], _, h, _ => h.elim
  | _ :: _, _ :: _, [], h, _ => h.elim
theorem ents_ns {K : PySem.W.Frag} {w : World} {a : Addr} {es : Array DictEntry} {n : Nat} {ks : List Str} {ds : List D} (kd : KDict K w a es n) (h : EntsOk K es.toList ks ds) (z : Str) :
    (dgS ks ds z = none → PySem.W.nsIn K a z = some none) ∧ ∀ d, dgS ks ds z = some d → ∃ u v, PySem.W.nsIn K a z = some (some u) ∧ RelV v u ∧ ∀ I, Rep K I d v := by
  obtain ⟨h0, h1, h2⟩ := ents_find h z
  refine ⟨fun hn => ?_, fun d hd => ?_⟩
  · unfold PySem.W.nsIn
    rw [kd.at_]
    dsimp only
    rw [h1 hn]
    dsimp only
    rw [h0]
    rfl
  · obtain ⟨e, v, g1, g2, g3⟩ := h2 d hd
    refine ⟨e.val, v, ?_, g2, g3⟩
    unfold PySem.W.nsIn
    rw [kd.at_]
    dsimp only
    rw [g1]
theorem ents_some {K : PySem.W.Frag} {w : World} {a : Addr} {es : Array DictEntry} {n : Nat} {ks : List Str} {ds : List D} (kd : KDict K w a es n) (h : EntsOk K es.toList ks ds) (z : Str) :
    ∃ r, PySem.W.nsIn K a z = some r ∧ r.isSome = (dgS ks ds z).isSome := by
  obtain ⟨h1, h2⟩ := ents_ns kd h z
  cases e : dgS ks ds z with
  | none => exact ⟨none, h1 e, rfl⟩
  | some d => obtain ⟨u, v, g, _⟩ := h2 d e; exact ⟨some u, g, rfl⟩
section
variable [CA] {π : Pi} {G : Gx} {pos : Pos}
theorem gv_dic {x : Str} {c : Nat} {ks : List Str} {ds : List D} (h : GDic G.X.w G.X.K G.X.mg x c ks ds) : Gv G x (.raw (.ref (CA.at_ c))) := ⟨.ref (CA.at_ c), _, h.gl, rfl, fun _ => rfl⟩
open Classical in
noncomputable def pInG (c : Nat) (ks : List Str) (ds : List D) : List D → Option Sl
  | [.str z, .raw (.ref a)] => if a = CA.at_ c then some (.v (.bl (dgS ks ds z).isSome)) else none
  | _ => none
open Classical in
noncomputable def pNinG (c : Nat) (ks : List Str) (ds : List D) : List D → Option Sl
  | [.str z, .raw (.ref a)] => if a = CA.at_ c then some (.v (.bl (!(dgS ks ds z).isSome))) else none
  | _ => none
open Classical in
noncomputable def pIxG (c : Nat) (ks : List Str) (ds : List D) : List D → Option Sl
  | [.raw (.ref a), .str z] => if a = CA.at_ c then (dgS ks ds z).map .v else none
  | _ => none
theorem pInG_ok {x : Str} {c : Nat} {ks : List Str} {ds0 : List D} (g : GDic G.X.w G.X.K G.X.mg x c ks ds0) : PrimOk G (R2l (wop G.X (compareOp .In))) (pInG c ks ds0) := fun ds r e => by
  unfold pInG at e
  split at e
  · rename_i z a
    split at e
    · rename_i ha
      subst ha
      cases e
      obtain ⟨es, n, kd, hE⟩ := g.ex
      obtain ⟨r, hr1, hr2⟩ := ents_some kd hE z
      exact dr_R2 fun I H v w s r1 r2 Q k => by
        cases (show _ = _ from r1)
        cases (show _ = _ from r2)
        exact (op_in_kd kd).to ⟨z, r, rfl, rfl, hr1, by rw [hr2]; exact k _ _ I H (fun _ => .v) (Res.val s rfl)⟩
    · cases e
  · cases e
theorem pNinG_ok {x : Str} {c : Nat} {ks : List Str} {ds0 : List D} (g : GDic G.X.w G.X.K G.X.mg x c ks ds0) : PrimOk G (R2l (wop G.X (compareOp .NotIn))) (pNinG c ks ds0) := fun ds r e => by
  unfold pNinG at e
  split at e
  · rename_i z a
    split at e
    · rename_i ha
      subst ha
      cases e
      obtain ⟨es, n, kd, hE⟩ := g.ex
      obtain ⟨r, hr1, hr2⟩ := ents_some kd hE z
      exact dr_R2 fun I H v w s r1 r2 Q k => by
        cases (show _ = _ from r1)
        cases (show _ = _ from r2)
        exact (op_notIn_kd kd).to ⟨z, r, rfl, rfl, hr1, by rw [hr2]; exact k _ _ I H (fun _ => .v) (Res.val s rfl)⟩
    · cases e
  · cases e
theorem pIxG_ok {x : Str} {c : Nat} {ks : List Str} {ds0 : List D} (g : GDic G.X.w G.X.K G.X.mg x c ks ds0) : PrimOk G (R2l (wix G.X)) (pIxG c ks ds0) := fun ds r e => by
  unfold pIxG at e
  split at e
  · rename_i a z
    split at e
    · rename_i ha
      subst ha
      obtain ⟨es, n, kd, hE⟩ := g.ex
      cases e2 : dgS ks ds0 z with
      | none => rw [e2] at e; cases e
      | some d =>
        rw [e2] at e
        cases e
        obtain ⟨u, v0, g1, g2, g3⟩ := (ents_ns kd hE z).2 d e2
        exact dr_R2 fun I H v w s r1 r2 Q k => by
          cases (show _ = _ from r1)
          cases (show _ = _ from r2)
          intro value slice pins s0 σ v u2 Iv rv ru hs
          obtain rfl : v = Value.ref (CA.at_ c) := rv
          obtain ⟨t, rfl⟩ := (show ∃ t, u2 = Value.str z t from ru)
          exact PyProof.Rows.tail_any (kd_type kd Iv) slot_dict_getitem.lookup (op_item_kd kd pins s0 σ H (.ref (CA.at_ c)) (.str z) _ _ Q Iv rfl ⟨t, rfl⟩ ⟨z, u, v0, rfl, rfl, g1, g2, k _ _ I H (fun _ => .v) (Res.val s (g3 I))⟩) hs
    · cases e
  · cases e
/-! ### for k, v in D.items() -/
def Itg (kvs : List (V × V)) : It :=
  ⟨fun i _ => i < kvs.length, fun i H x H' => ∃ T k v, kvs[i]? = some (k, v) ∧ x = .ref T ∧ H T = none ∧ H' = upd H T (.tup [k, v]), fun i _ => kvs.length ≤ i⟩
theorem turn_itemsG {P : Program} {w : World} {K : PySem.W.Frag} {d : Addr} {es : Array DictEntry} {ep : Nat} {kvs : List (V × V)} {elts : List Expr} {kk : Nat} {tpos : Pos} (it : Addr) (hl : K.lookup d = some ⟨.type "dict", none, .dict es ep, #[]⟩)
    (hz : kvs.length = es.size) (hr : ∀ (i : Nat) k v, kvs[i]? = some (k, v) → ∃ e, es[i]? = some e ∧ RelV k e.key ∧ RelV v e.val) :
    Turn P w K (.Tuple elts kk tpos) (Itg kvs) [it] it (fun i h => ∃ ok ov, IsItemIter h it d i es.size ep ok ov) where
  mem := by simp
  obj := fun i h st b hb => by
    have e : b = it := by simpa using hb
    subst e
    obtain ⟨ok, ov, e⟩ := st
    exact ⟨_, e, fun v z => nomatch z⟩
  keep := fun i h h' st k => let ⟨ok, ov, e⟩ := st; ⟨ok, ov, k it (by simp) _ e⟩
  item := by
    intro X hP hw hK hc i pins s σ H E I hf st hg
    subst hP hw hK
    have hg : i < kvs.length := hg
    obtain ⟨f0, f1, f2, f3, f4, f5⟩ := hf it (by simp)
    have raw : DT.Raw s.heap d es ep := ⟨_, I.kIn _ _ hl, ⟨rfl, rfl, rfl⟩, rfl⟩
    obtain ⟨⟨k, v⟩, hkv⟩ : ∃ p, kvs[i]? = some p := ⟨kvs[i], List.getElem?_eq_getElem hg⟩
    obtain ⟨e0, he0, rk, rv⟩ := hr i k v hkv
    have hi : i < es.size := by omega
    have e00 : es[i] = e0 := by
      rw [Array.getElem?_eq_getElem hi] at he0
      exact Option.some.inj he0
    obtain ⟨ok, ov, he⟩ := st
    have hlt : it < s.heap.objs.size := Heap.lt_size he
    refine DT.nextI he raw hi fun h' ho hT hz' hk => ?_
    refine ⟨_, rfl, wpAny_letOwnedTupleGo_items (s := { s with heap := h' }) ho fun h'' he' sb => ?_⟩
    have hT2 : h''.get? s.heap.objs.size = some { cls := .type "tuple", data := .seq #[es[i].key, es[i].val] } := (sb.2 _ (Nat.ne_of_gt hlt)).trans hT
    have new : ObjOk X.prog X.w (upd H s.heap.objs.size (.tup [k, v])) h'' s.heap.objs.size (.tup [k, v]) :=
      ⟨by show 2 ≤ sizeLine; decide, [es[i].key, es[i].val], .cons (by rw [e00]; exact rk) (.cons (by rw [e00]; exact rv) .nil), ⟨_, hT2, rfl, _, rfl⟩⟩
    have I1 : Inv X pins σ (upd H s.heap.objs.size (.tup [k, v])) { s with heap := h'' } :=
      I.turnedNew (t' := s.toks) (ch := [it]) (fun b ob hb e => (sb.2 b (by simpa using hb)).trans (hk b ob (by simpa using hb) e)) hf (Nat.le_refl _) new
    refine ⟨.ref s.heap.objs.size, _, I1, rfl, ⟨_, k, v, hkv, rfl, I.hok.fresh (Nat.le_refl _), rfl⟩, ⟨es[i].key, es[i].val, he'⟩, fun b hb => ?_⟩
    have e : b = it := by simpa using hb
    rw [e, upd_ne (Nat.ne_of_lt hlt)]
    exact (hf it (by simp)).1
  done := by
    intro X hP hw hK hc i pins s σ H E I hf st hg
    subst hP hw hK
    have hg : kvs.length ≤ i := hg
    obtain ⟨f0, f1, f2, f3, f4, f5⟩ := hf it (by simp)
    have raw : DT.Raw s.heap d es ep := ⟨_, I.kIn _ _ hl, ⟨rfl, rfl, rfl⟩, rfl⟩
    obtain ⟨ok, ov, he⟩ := st
    exact DT.endI (I.ok.hd hc) he raw (by omega) fun h' eb => ⟨rfl, I.turned (t' := s.toks) (fun b ob hb e => eb b ob hb e) f0 f1 f3 f4 f5⟩
  self := fun A i s Q E st h => let ⟨_, _, e⟩ := st; PySem.W.kcp_self e h
theorem pi_itemsG {X : Cx} {d : Addr} {es : Array DictEntry} {ep : Nat} {kvs : List (V × V)} {elts : List Expr} {e : Expr} {td : TE} {kk : Nat} {tpos apos cpos : Pos} (hl : X.K.lookup d = some ⟨.type "dict", none, .dict es ep, #[]⟩) (low : (d == sysModules) = false)
    (hz : kvs.length = es.size) (hr : ∀ (i : Nat) k v, kvs[i]? = some (k, v) → ∃ e, es[i]? = some e ∧ RelV k e.key ∧ RelV v e.val)
    (he : PE X e td) (hbase : attributeBase e "items" X.env (eval e X.env) = eval e X.env := by rfl) (hline : (apos.endLine == cpos.line) = true := by rfl) :
    PI X (.Tuple elts kk tpos) (.Call (.Attribute e "items" apos) [] [] cpos) (fun σ H R => td σ H fun x H1 => x = .ref d ∧ R (Itg kvs) H1) := by
  refine ⟨fun pins s σ H R I h => ?_⟩
  refine wpAny_Call_method (T := "dict") (id := "dict.items") hbase rfl hline F.plainAttrs_dict F.slot_dict_items F.type_dict_items (thn (he.run pins s σ H _ I h) fun u s1 ⟨x, H1, I1, rx, ex, q⟩ => ?_)
  subst ex
  obtain rfl : u = Value.ref d := rx
  have raw : DT.Raw s1.heap d es ep := ⟨_, I1.kIn _ _ hl, ⟨rfl, rfl, rfl⟩, rfl⟩
  refine ⟨raw.typeIs, fun b hb => ?_, ?_⟩
  · cases hb
    exact ⟨_, I1.kIn _ _ hl, rfl⟩
  have I2 : Inv X pins σ H1 { s1 with heap := s1.heap.push { cls := .type "dict_items", data := .fields #[.ref d] } } := I1.kept (t' := s1.toks) fun b ob q => Heap.get?_push_of_some _ q
  have fin : wpAny (model X.prog X.w) X.A (pyIter (.ref s1.heap.objs.size)) (PIE X pins σ (.Tuple elts kk tpos) R) X.xe { s1 with heap := s1.heap.push { cls := .type "dict_items", data := .fields #[.ref d] } } := by
    refine DT.iterI (d := d) (es := es) (ep := ep) ⟨_, Heap.get?_push_size _ rfl, rfl, rfl⟩ (raw.push _) (pi_one (tk := s1.toks) I2 _ (turn_itemsG _ hl hz hr) ⟨.none, .none, ?_⟩ q)
    exact Heap.get?_push_size _ rfl
  show wpAny _ _ (callWith cpos (.builtin "dict.items") [.ref d] [] []) _ X.xe s1
  exact method_meetsIn F.slot_dict_items F.entry_dict_items rfl (PySem.evalArgs_none ⟨rfl, raw.typeIs, F.args_dict_items_1 _, _, DT.meetsItems (es := es) (ep := ep) low, raw, fin⟩)
def prD : List Str → List D → List D
  | k :: ks, d :: ds => .tup [.str k, d] :: prD ks ds
  | _, _ => []
theorem ents_pairs {K : PySem.W.Frag} : ∀ {es : List DictEntry} {ks : List Str} {ds : List D}, EntsOk K es ks ds →
    ∃ kvs : List (V × V), kvs.length = es.length ∧ (∀ (i : Nat) k v, kvs[i]? = some (k, v) → ∃ e, es[i]? = some e ∧ RelV k e.key ∧ RelV v e.val) ∧ (prD ks ds).length = es.length ∧
      ∀ (i : Nat) k v, kvs[i]? = some (k, v) → ∃ z d, (prD ks ds)[i]? = some (.tup [.str z, d]) ∧ k = .str z ∧ ∀ I, Rep K I d v
  | [], [], [], _ => ⟨[], rfl, fun i k v h => by simp at h, rfl, fun i k v h => by simp at h⟩
  | e :: es, k :: ks, d :: ds, h => by
    obtain ⟨⟨t, hk⟩, ⟨v, h1, h2⟩, h3⟩ := h
    obtain ⟨kvs, a1, a2, a3, a4⟩ := ents_pairs h3
    refine ⟨(.str k, v) :: kvs, by rw [List.length_cons, a1, List.length_cons], fun i k' v' h => ?_, by rw [prD, List.length_cons, a3, List.length_cons], fun i k' v' h => ?_⟩
    · cases i with
      | zero => cases h; exact ⟨e, rfl, ⟨t, hk⟩, h1⟩
      | succ i => exact a2 i k' v' h
    · cases i with
      | zero => cases h; exact ⟨k, d, rfl, rfl, h2⟩
      | succ i => exact a4 i k' v' h
  | [], _ :: _, _, h => h.elim
  | [], [], _ :: _, h => h.elim
  | _ :: _, [], _, h => h.elim
  | _ :: _, _ :: _, [], h => h.elim
def itgF (ks : List Str) (ds : List D) : Sx → Re (List D) := fun s => .ok (prD ks ds) s
theorem okI_itemsG {x : Str} {c : Nat} {ks : List Str} {ds0 : List D} {elts : List Expr} {kk : Nat} {tpos apos cpos p : Pos} (g : GDic G.X.w G.X.K G.X.mg x c ks ds0) (hg : Gl G.X x := by rfl)
    (hbase : attributeBase (.Name x p) "items" G.X.env (eval (.Name x p) G.X.env) = eval (.Name x p) G.X.env := by rfl) (hline : (apos.endLine == cpos.line) = true := by rfl) (hdb : (x == ("__debug__" : Str)) = false := by decide) :
    OkI π G (.Tuple elts kk tpos) (.Call (.Attribute (.Name x p) "items" apos) [] [] cpos) (itgF ks ds0) := .mk fun δ s Φ hs h => fun σ I H z f R q => by
  obtain ⟨es, n, kd, hE⟩ := g.ex
  obtain ⟨kvs, h1, h2, h3, h4⟩ := ents_pairs hE
  refine (pi_itemsG (kvs := kvs) kd.at_ kd.low (by rw [h1]; simp) (fun i k v e => by
    obtain ⟨en, e1, e2⟩ := h2 i k v e
    exact ⟨en, by rw [← e1, Array.getElem?_toList], e2⟩) (pe_glob (v := .ref (CA.at_ c)) hg g.gl rfl hdb) hbase hline).to ⟨rfl, ?_⟩
  have hh : Φ (prD ks ds0).length (fun i d => (prD ks ds0)[i]? = some d) δ := h δ hs .refl
  refine q _ _ δ _ I H hh z (Goes.refl) fun i I' H' l1 l2 => ⟨fun hi => ?_, fun hi => by show kvs.length ≤ i; omega⟩
  refine ⟨show i < kvs.length by omega, fun y H2 ⟨T, k, v, e3, e4, e5, e6⟩ => ?_⟩
  obtain ⟨z, d, w1, w2, w3⟩ := h4 i k v e3
  subst w2
  rw [e4, e6]
  have nI := le_none l2 e5
  refine ⟨_, _, w1, Res.fast l2 e5 ⟨T, _, rfl, .inl upd_same, ?_⟩⟩
  exact Reps.cons rfl (Reps.cons (w3 _) Reps.nil)
end
/-! ### checks: a written dict at the end -/
def dicB (x : Str) (ks : List Str) (ds : List D) : PySem.W.Frag → Bool := fun K => (He.Fa.glo x).ok K && (match K.lookup (He.ga K x) with
  | some ⟨_, _, .dict es _, _⟩ => decide (es.toList.map (fun e => match e.key with | .str z _ => some z | _ => none) = ks.map some) && conBs K ds (es.toList.map (·.val))
  | _ => false)
theorem ents_of {K : PySem.W.Frag} : ∀ {es : List DictEntry} {ks : List Str} {ds : List D}, es.map (fun e => match e.key with | .str z _ => some z | _ => none) = ks.map some → conBs K ds (es.map (·.val)) = true → EntsOk K es ks ds
  | [], [], [], _, _ => trivial
  | [], [], _ :: _, _, h => by cases h
  | [], _ :: _, _, h, _ => by cases h
  | _ :: _, [], _, h, _ => by cases h
  | _ :: _, _ :: _, [], _, h => by cases h
  | e :: es, k :: ks, d :: ds, h1, h2 => by
    rw [List.map_cons, List.map_cons] at h1
    injection h1 with a b
    obtain ⟨c1, c2⟩ := He.ba (show (conB K d e.val && conBs K ds (es.map (·.val))) = true from h2)
    refine ⟨?_, conB_ok d _ c1, ents_of b c2⟩
    split at a
    · rename_i z t hz
      cases a
      exact ⟨t, hz⟩
    · cases a
theorem dicB_ok [CA] {w : World} {K : PySem.W.Frag} {h : Heap} {mg : Str → Option Value} {x : Str} {c : Nat} {ks : List Str} {ds : List D} (X : K.In h) (G : h.Ns mainGlobals mg) (hc : CA.at_ c = He.ga K x) (hd : ∃ es n, KDict K w (He.ga K x) es n) (b : dicB x ks ds K = true) : GDic w K mg x c ks ds := by
  obtain ⟨h1, h2⟩ := He.ba (show ((He.Fa.glo x).ok K && _) = true from b)
  obtain ⟨es, n, kd⟩ := hd
  rw [kd.at_] at h2
  obtain ⟨h3, h4⟩ := He.ba h2
  refine ⟨by rw [hc]; exact He.glo_ok X G h1, es, n, by rw [hc]; exact kd, ents_of (of_decide_eq_true h3) h4⟩
/-! ### defs with a star parameter -/
theorem cxUpN {P : Program} {w : World} : StX.CXUp (L2N.CX P w) := by
  rintro outer s H s2 H2 E e s' un kp ho ⟨a, B, H', cls, d, ea, fl, hok, ub, na, os, ag, he⟩
  refine ⟨a, B, H', cls, d, ea, fl, hok, ⟨fun b o q n hb => ub.keep b o (kp b o q) (un.free b o q n (by simp)) hb, fun b o q hb => ub.slot b o (kp b o q) hb, fun b o q n => ub.free b o (kp b o q) (un.free b o q n (by simp)),
    fun b o q hb => ub.there b o (kp b o q) hb, fun b xs q => ub.tups b xs (un.tups b xs q), fun b o xs q => ub.frzs b o xs (un.frzs b o xs q), fun b ps q => ?_⟩, na, os.trans ho, ag, he⟩
  obtain ⟨m1, e1⟩ := un.tbls b ps q
  obtain ⟨m2, e2⟩ := ub.tbls b _ e1
  exact ⟨m1 ++ m2, by rw [e2, Array.append_assoc]⟩
/-- what is left over as a tuple -/
def starS (n : Nat) (S : PSp) : PSp := fun ds Ψ Ξ => n ≤ ds.length ∧ S (ds.take n ++ [.tup (ds.drop n)]) Ψ Ξ
def spR (K : PySem.W.Frag) (S : PSp) : Sp := fun vs H Q E => vs.length ≤ sizeLine ∧ spP K vs.length S vs H Q E
section
variable {P : Program} {w : World} {K : PySem.W.Frag} {mg : Str → Option Value} {base : Heap}
theorem Reps.take' {K : PySem.W.Frag} {I : Hp} : ∀ {n : Nat} {ds : List D} {vs : List V}, Reps K I ds vs → Reps K I (ds.take n) (vs.take n) ∧ Reps K I (ds.drop n) (vs.drop n)
  | 0, ds, vs, h => ⟨by rw [List.take_zero, List.take_zero]; exact Reps.nil, by rw [List.drop_zero, List.drop_zero]; exact h⟩
  | n + 1, [], vs, h => by
    cases (show vs = [] from h)
    exact ⟨Reps.nil, Reps.nil⟩
  | n + 1, d :: ds, vs, h => by
    obtain ⟨v, r, rfl, h1, h2⟩ := h
    obtain ⟨a, b⟩ := Reps.take' (n := n) h2
    exact ⟨by rw [List.take_succ_cons, List.take_succ_cons]; exact Reps.cons h1 a, by rw [List.drop_succ_cons, List.drop_succ_cons]; exact b⟩
theorem fn_starR {x qual : Str} {st : Stmt} {f : Addr} {fd : FuncData} {N ps : List Str} {pv : Str} {k n : Nat} {S : PSp} (F : Fun K x qual st f fd) (Sc : FnScope N (ps ++ [pv]) (defScope st)) (hn : n = ps.length) (hN : n + 1 ≤ N.length)
    (hb : ∀ (kV doc pm : Value) (an : Option Addr) (cdv ct : Value) (us rest : List Value), us.length = ps.length → bindArgs (PySem.W.fnOf x qual (defArgs st) (defBody st) (defScope st) .none kV doc pm an cdv ct) ⟨us ++ rest, []⟩ = (newTuple rest >>= fun t => pure (ps.zip us ++ [(pv, t)])))
    (hbody : ∀ (cdv : Value) (A : Around) (outer : List PySem.Env) (s : Shared) (H : Hp) (E : XK) (ds : List D) (Ψ : DV → Prop) (Ξ : Exn → Prop), Room k (A.deeper (envOfC qual (defScope st) s.heap.objs.size f cdv)) → ds.length = n + 1 → S ds Ψ Ξ →
      dsb ⟨fX P w K mg base N qual st f cdv A outer s H E, fW E, fun x _ => Ξ x⟩ (defBody st) (ds.map .val ++ List.replicate (N.length - ds.length) .no) (pE Ψ)) : FnR P w K mg base (L2N.CX P w) (k + 1) f (spR K (starS n S)) := by
  subst hn
  obtain ⟨_, _, kV, doc, pm, an, cd, ct, _, rfl, at_, code⟩ := F.ex
  have key := StX.fn_star (P := P) (w := w) (mg := mg) (base := base) (k := k) (N := N) (ps := ps) (sp := fun vs H Q E => spP K (ps.length + 1) S vs H Q E) at_ code Sc (cxUpN (P := P) (w := w)) (hb kV doc pm an cd ct) (fun A outer s H vs Q E hr h =>
    ⟨_, PSs.of, body_P h hN fun ds Ψ Ξ ld hS => hbody cd A outer s H E ds Ψ Ξ hr ld hS⟩)
  intro A outer s H us vs Q E hr e0 r ⟨hz, hl, I, ds, Ψ, Ξ, sb, rp, ⟨hm, hS⟩, hq, he⟩
  have ld : ds.length = vs.length := rp.length.symm
  obtain ⟨t1, t2⟩ := Reps.take' (n := ps.length) rp
  refine key A outer s H us vs Q E hr e0 r ⟨vs.take ps.length, vs.drop ps.length, (List.take_append_drop _ _).symm, by rw [List.length_take]; omega, by rw [List.length_drop]; omega, fun p hp => ?_⟩
  have nI : I p = none := le_none sb hp
  have l1 : Le I (upd I p (.tup (vs.drop ps.length))) := Le.new nI
  have l2 : Le (upd I p (.tup (vs.drop ps.length))) (upd H p (.tup (vs.drop ps.length))) := fun a o e => by
    by_cases h : a = p
    · subst h; rw [upd_same] at e ⊢; exact e
    · rw [upd_ne h] at e ⊢; exact sb _ _ e
  refine ⟨by rw [List.length_append, List.length_take]; simp; omega, upd I p (.tup (vs.drop ps.length)), ds.take ps.length ++ [.tup (ds.drop ps.length)], Ψ, Ξ, l2, ?_, hS, fun r v I' H' hr re => ?_, fun x cls d I' H' hx h1 h2 h3 h4 h5 => ?_⟩
  · exact Reps.append (Reps.mono l1 _ _ t1) (Reps.cons ⟨p, _, rfl, .inl upd_same, Reps.mono l1 _ _ t2⟩ Reps.nil)
  · refine hq r v I' H' hr ⟨l1.trans re.le, fun a o h => ?_, fun a o h hi => ?_, re.sub, ?_⟩
    · exact re.hh a o (by rw [upd_ne (fun e => by rw [e, hp] at h; cases h)]; exact h)
    · have ne : a ≠ p := fun e => by rw [e, hp] at h; cases h
      exact re.nw a o (by rw [upd_ne ne]; exact h) (by rw [upd_ne ne]; exact hi)
    · have rel := re.rel
      cases r with
      | no => exact rel
      | val d => exact rel
      | own q c =>
        obtain ⟨a1, a2, a3, a4⟩ := rel
        have ne : q ≠ p := fun e => by rw [e, upd_same] at a3; cases a3
        exact ⟨a1, a2, by rw [upd_ne ne] at a3; exact a3, a4⟩
  · refine he x cls d I' H' hx (l1.trans h1) (fun a o h => h2 a o (by rw [upd_ne (fun e => by rw [e, hp] at h; cases h)]; exact h)) (fun a o h hi => ?_) h4 h5
    have ne : a ≠ p := fun e => by rw [e, hp] at h; cases h
    exact h3 a o (by rw [upd_ne ne]; exact h) (by rw [upd_ne ne]; exact hi)
end
end Zf
/-! Calls of defs with a star parameter. -/
namespace Zd
open PySem PySem.Spec L2
section
variable {X : Cx} {CX : CXT} {k : Nat} {f : Addr} {sp : Sp} {E : St → XK} {x : Str} {p pos : Pos} {e : Expr} {es : List Expr} {t : TA}
theorem pe_callS0 {fd : FuncData} {ps : List Str} (F : FnOk X.prog X.w X.K X.mg X.base CX k f fd ps sp) (hr : Room k X.A) (hg : Gl X x) (hm : X.mg x = some (.ref f)) (hk : PySem.W.keepIn X.K (.ref f) = true) (hb : Binds X.K fd ps []) (hx : ∀ σ, PassesAt CX X σ (E σ)) (hdb : (x == ("__debug__" : Str)) = false := by decide) :
    PE X (.Call (.Name x p) [] [] pos) (tCallS sp E (wes X [])) := by
  refine ⟨fun pins s σ H Q I h => ?_⟩
  refine wpAny_Call_Name_kw (ld_glob I hg hm ?_ hdb)
  exact PySem.W.callWith_K0 I.kIn hk (run_fnS (us := []) F hr hb (hx σ) I .nil h)
theorem pe_callSR (F : FnR X.prog X.w X.K X.mg X.base CX k f sp) (hr : Room k X.A) (hg : Gl X x) (hm : X.mg x = some (.ref f)) (hk : PySem.W.keepIn X.K (.ref f) = true) (hx : ∀ σ, PassesAt CX X σ (E σ))
    (ha : PA X (e :: es) t) (hdb : (x == ("__debug__" : Str)) = false := by decide) (he : starEach (e :: es) X.env = (false, eval e X.env) :: starEach es X.env := by rfl) (hpl : (backTo pos (starEach es X.env)).any (·.1) = false := by rfl) :
    PE X (.Call (.Name x p) (e :: es) [] pos) (tCallS sp E t) := by
  refine ⟨fun pins s σ H Q I h => ?_⟩
  refine wpAny_Call_Name_kw (ld_glob I hg hm ?_ hdb)
  refine PySem.W.callWith_K (h₀ := X.base) I.ok.mod.kin hk (thn (ha.run pos pins s σ H _ I h) fun us s1 ⟨vs, H1, I1, r, q⟩ => ⟨I1.kIn, ?_⟩) he hpl
  refine wpAny_call (codeAny_mono (F X.A X.stack s1 H1 us vs Q (E σ) hr I1.env0 r q) fun r s' hq => ?_)
  cases r with
  | error e => exact hx σ pins H1 s1 e s' I1 hq
  | ok fl =>
    cases fl with
    | ret u => exact I1.after hq
    | next => exact False.elim hq
    | brk => exact False.elim hq
    | cont => exact False.elim hq
end
end Zd
namespace Zf
open PySem PySem.Spec L2 Zd
open PyProof.Rows (envOfC)
structure CalV (P : Program) (w : World) (K : PySem.W.Frag) (mg : Str → Option Value) (base : Heap) (j : Nat) (x : Str) (S : PSp) : Prop where
  ex : ∃ f, FnR P w K mg base (L2N.CX P w) j f (spR K S) ∧ mg x = some (.ref f) ∧ PySem.W.keepIn K (.ref f) = true
/-- what is left over behind m values is a tuple -/
def starP (m : Nat) (F : List D → Rc) : List D → Rc := fun ds => if m ≤ ds.length then F (ds.take m ++ [.tup (ds.drop m)]) else .no
theorem FnR.le {P : Program} {w : World} {K : PySem.W.Frag} {mg : Str → Option Value} {base : Heap} {CX : CXT} {j k : Nat} {f : Addr} {sp : Sp} (F : FnR P w K mg base CX j f sp) (h : j ≤ k) : FnR P w K mg base CX k f sp := F.mono h
section
variable [CA] {π : Pi} {G : Gx} {pos : Pos}
theorem okE_callP0 {k j : Nat} {x : Str} {p : Pos} {F : List D → Rc} (C : CalP G.X.prog G.X.w G.X.K G.X.mg G.X.base j x 0 (specP F)) (hr : Room k G.X.A) (hj : j ≤ k) (tk : L2N.Takes G.X G.W) (hg : Gl G.X x := by rfl) (hdb : (x == ("__debug__" : Str)) = false := by decide) :
    OkE π G (.Call (.Name x p) [] [] pos) (callP 0 F aN) := .mk fun δ s Φ hs h => by
  obtain ⟨f, fd, ps, FO, hl, hm, hk, hb⟩ := C.ex
  exact de_callQ (pe_callS0 (E := fun σ => WE G.W σ) (FO.mono hj) hr hg hm hk hb (fun σ => L2N.passAt tk σ) hdb) (callP_ok okA_nil hs h)
theorem starS_of {m : Nat} {F : List D → Rc} {ds : List D} {Ψ : DV → Prop} {Ξ : Exn → Prop} (h : specP (starP m F) ds Ψ Ξ) : starS m (specP F) ds Ψ Ξ := by
  unfold specP starP at h
  by_cases hm : m ≤ ds.length
  · rw [if_pos hm] at h
    exact ⟨hm, h⟩
  · rw [if_neg hm] at h
    exact h.elim
theorem okE_callV {k j n m : Nat} {x : Str} {p : Pos} {F : List D → Rc} {e : Expr} {es : List Expr} {a : Sx → Re (List Ag)} (C : CalV G.X.prog G.X.w G.X.K G.X.mg G.X.base j x (starS m (specP F))) (hr : Room k G.X.A) (hj : j ≤ k) (tk : L2N.Takes G.X G.W) (hn : (decide (n ≤ 100)) = true) (ha : OkA π G (e :: es) a) (hg : Gl G.X x := by rfl)
    (hp : PA G.X (e :: es) (wes G.X (e :: es)) := by repeat (first | exact pa_nil | refine pa_cons PE.of ?_)) (hdb : (x == ("__debug__" : Str)) = false := by decide) (he : starEach (e :: es) G.X.env = (false, eval e G.X.env) :: starEach es G.X.env := by rfl) (hpl : (backTo pos (starEach es G.X.env)).any (·.1) = false := by rfl) :
    OkE π G (.Call (.Name x p) (e :: es) [] pos) (callP n (starP m F) a) := .mk fun δ s Φ hs h => by
  obtain ⟨f, FR, hm, hk⟩ := C.ex
  have hn : n ≤ 100 := of_decide_eq_true hn
  have F2 : FnR G.X.prog G.X.w G.X.K G.X.mg G.X.base (L2N.CX G.X.prog G.X.w) j f (spP G.X.K n (specP (starP m F))) := FR.imp fun vs H Q E ⟨hl, I, ds, Ψ, Ξ, a1, a2, a3, a4⟩ =>
    ⟨by have : (100 : Nat) ≤ sizeLine := by decide
        omega, rfl, I, ds, Ψ, Ξ, a1, a2, starS_of a3, a4⟩
  exact de_callQ (pe_callSR (E := fun σ => WE G.W σ) (F2.mono hj) hr hg hm hk (fun σ => L2N.passAt tk σ) hp hdb he hpl) (callP_ok ha hs h)
end
section
variable [CA] {P : Program} {w : World} {K : PySem.W.Frag} {mg : Str → Option Value} {base : Heap}
theorem fnV {x qual : Str} {st : Stmt} {f : Addr} {fd : FuncData} {N ps : List Str} {pv : Str} {k n : Nat} {body : Sx → Rs} (F : Fun K x qual st f fd) (Sc : FnScope N (ps ++ [pv]) (defScope st)) (hn : n = ps.length) (hN : n + 1 ≤ N.length)
    (hb : ∀ (kV doc pm : Value) (an : Option Addr) (cdv ct : Value) (us rest : List Value), us.length = ps.length → bindArgs (PySem.W.fnOf x qual (defArgs st) (defBody st) (defScope st) .none kV doc pm an cdv ct) ⟨us ++ rest, []⟩ = (newTuple rest >>= fun t => pure (ps.zip us ++ [(pv, t)])))
    (hbody : ∀ (π : Pi) (cdv : Value) (A : Around) (outer : List PySem.Env) (s : Shared) (H : Hp) (E : XK) (Ξ : Exn → Prop), Room k (A.deeper (envOfC qual (defScope st) s.heap.objs.size f cdv)) → OkB π ⟨fX P w K mg base N qual st f cdv A outer s H E, fW E, fun x _ => Ξ x⟩ (defBody st) body) :
    FnR P w K mg base (L2N.CX P w) (k + 1) f (spR K (starS n (specP (runP N.length body)))) :=
  fn_starR F Sc hn hN hb fun cdv A outer s H E ds Ψ Ξ hr hl hS => by
    refine hbody ⟨0, 0, 0, ⟨0, [], []⟩⟩ cdv A outer s H E Ξ hr _ _ _ ((Ers.vals ds).app (Ers.nos _)) ?_
    unfold specP runP at hS
    cases e : body (ds.map .v ++ List.replicate (N.length - ds.length) .no) with
    | nx s1 => rw [e] at hS; exact fun δ' a => hS _ fun _ => .v
    | rt r s1 =>
      rw [e] at hS
      intro r' δ' er a
      cases r with
      | no => exact hS.elim
      | x _ => exact hS.elim
      | v d => exact okR_of er (by simp) (hS _ (untag_ok (by simp) er))
      | o t c => exact okR_of er (by simp) (hS _ (untag_ok (by simp) er))
    | bk s1 => rw [e] at hS; exact hS.elim
    | ct s1 => rw [e] at hS; exact hS.elim
    | ex x s1 => rw [e] at hS; exact fun δ' a => hS
    | no => rw [e] at hS; exact hS.elim
end
end Zf
/-! How the functions over slots are run: a row for each form. Written by mkS.py. -/
namespace Zf
open Zd
open PySem (Addr)
section
def Rs.thn (m : Rs) (k : Sx → Rs) : Rs :=
  match m with
  | .nx s => k s
  | .rt r s => .rt r s
  | .bk s => .bk s
  | .ct s => .ct s
  | .ex x s => .ex x s
  | .no => .no
def kV (d : D) (as : List Ag) (s : Sx) : Re (List Ag) := .ok (.v d :: as) s
def kSi (i : Nat) (as : List Ag) (s : Sx) : Re (List Ag) := .ok (.s i :: as) s
def kE (r : Sx → Re (List Ag)) (x : Sl) (s : Sx) : Re (List Ag) :=
  match fastS x with
  | some d => (r s).bind (kV d)
  | none => .no
def kS (i : Nat) (r : Sx → Re (List Ag)) (o : Option Sl) (s : Sx) : Re (List Ag) :=
  match o with
  | some (.v d) => (r s).bind (kV d)
  | some (.o _ _) => (r s).bind (kSi i)
  | _ => .no
def lkv (d : D) (o : Option (List D × Bool)) : Option (List D × Bool) :=
  match o with
  | some (ds, b) => some (d :: ds, b)
  | none => none
def lks (x : Option Sl) (o : Option (List D × Bool)) : Option (List D × Bool) :=
  match x with
  | some (.v d) => lkv d o
  | some (.o _ c) =>
    match fastC c with
    | some d =>
      match o with
      | some (ds, _) => some (d :: ds, true)
      | none => none
    | none => none
  | _ => none
def oP (o : Option Sl) (b : Bool) (s : Sx) : Re Sl :=
  match o with
  | none => .no
  | some r => if (b && !flatS r) = true then .no else .ok r s
def oL (p : List D → Option Sl) (o : Option (List D × Bool)) (s : Sx) : Re Sl :=
  match o with
  | none => .no
  | some (ds, b) => oP (p ds) b s
def kO (p : List D → Option Sl) (as : List Ag) (s : Sx) : Re Sl := oL p (look s as) s
def tP (o : Option Sl) (s : Sx) : Re Bool :=
  match o with
  | some (.v (.bl k)) => .ok k s
  | _ => .no
def tL (p : List D → Option Sl) (o : Option (List D × Bool)) (s : Sx) : Re Bool :=
  match o with
  | none => .no
  | some (ds, _) => tP (p ds) s
def kT (p : List D → Option Sl) (as : List Ag) (s : Sx) : Re Bool := tL p (look s as) s
def tU (o : Option Bool) (s : Sx) : Re Bool :=
  match o with
  | some k => .ok k s
  | none => .no
def uL (f : D → Option Bool) (o : Option (List D × Bool)) (s : Sx) : Re Bool :=
  match o with
  | some ([d], _) => tU (f d) s
  | _ => .no
def kU (f : D → Option Bool) (as : List Ag) (s : Sx) : Re Bool := uL f (look s as) s
def mvK (i : Nat) (o : Option Sl) (s : Sx) : Re Sl :=
  match o with
  | some (.v d) => .ok (.v d) s
  | some (.o t c) => .ok (.o t c) (s.set i .no)
  | _ => .no
def fzK (i : Nat) (o : Option Sl) (s : Sx) : Re Sl :=
  match o with
  | some (.v d) => .ok (.v d) s
  | some (.o _ c) =>
    match fastC c with
    | some d => .ok (.v d) (s.set i (.v d))
    | none => .no
  | _ => .no
def ntK (k : Bool) (s : Sx) : Re Bool := .ok (!k) s
def andK (r : Sx → Re Bool) (k : Bool) (s : Sx) : Re Bool := if k = true then r s else .ok false s
def orK (r : Sx → Re Bool) (k : Bool) (s : Sx) : Re Bool := if k = true then .ok true s else r s
def vlK (r : Sl) (s : Sx) : Re Bool :=
  match r with
  | .v (.bl k) => .ok k s
  | _ => .no
def enK (k : Bool) (s : Sx) : Re Sl := .ok (.v (.bl (!k))) s
def eaK (r : Sx → Re Sl) (x : Sl) (s : Sx) : Re Sl :=
  match x with
  | .v (.bl k) => if k = true then r s else .ok (.v (.bl false)) s
  | _ => .no
def eoK (r : Sx → Re Sl) (x : Sl) (s : Sx) : Re Sl :=
  match x with
  | .v (.bl k) => if k = true then .ok (.v (.bl true)) s else r s
  | _ => .no
def eiK (a b : Sx → Re Sl) (k : Bool) (s : Sx) : Re Sl := if k = true then a s else b s
def ixO2 (as : List Ag) (o : Option Sl) (s : Sx) : Re Sl :=
  match as, o with
  | [.v (.int k)], some (.o _ (.lst ds)) =>
    match L2.atI ds k with
    | some d => .ok (.v d) s
    | none => .no
  | _, _ => .no
def ixOK (i : Nat) (as : List Ag) (s : Sx) : Re Sl := ixO2 as s[i]? s
def ixO1 (i : Nat) (g : Sx → Re (List Ag)) (f : Sx → Re Sl) (o : Option Sl) (s : Sx) : Re Sl :=
  match o with
  | some (.o _ (.lst _)) => (g s).bind (ixOK i)
  | _ => f s
def oD (o : Option D) (s : Sx) : Re Sl :=
  match o with
  | some d => .ok (.v d) s
  | none => .no
def ch3 (o : Option Sl) (s : Sx) : Re Sl :=
  match o with
  | some (.v d) => .ok (.v d) s
  | _ => .no
def ch2 (p' : List D → Option Sl) (y : D) (bs : List Ag) (s : Sx) : Re Sl :=
  match bs with
  | [.v z] => ch3 (p' [y, z]) s
  | _ => .no
def ch1 (p' : List D → Option Sl) (c : Sx → Re (List Ag)) (y : D) (o : Option Sl) (s : Sx) : Re Sl :=
  match o with
  | some (.v (.bl k)) => if k = true then (c s).bind (ch2 p' y) else .ok (.v (.bl false)) s
  | _ => .no
def chK (p p' : List D → Option Sl) (c : Sx → Re (List Ag)) (as : List Ag) (s : Sx) : Re Sl :=
  match as with
  | [.v x, .v y] => ch1 p' c y (p [x, y]) s
  | _ => .no
def s22 (p : List D → Option Sl) (a0 : Ag) (i : Int) (bs : List Ag) (s : Sx) : Re Sl :=
  match bs with
  | [.v (.int j)] => kO p [a0, .v (.int i), .v (.int j)] s
  | _ => .no
def s2K (p : List D → Option Sl) (h : Sx → Re (List Ag)) (as : List Ag) (s : Sx) : Re Sl :=
  match as with
  | [a0, .v (.int i)] => (h s).bind (s22 p a0 i)
  | _ => .no
def app2 (i : Nat) (as : List Ag) (o : Option Sl) (s : Sx) : Re Sl :=
  match as, o with
  | [.v d], some (.o t (.lst ds)) => if ds.length < PySem.sizeLine then .ok (.v .non) (s.set i (.o t (.lst (ds ++ [d])))) else .no
  | _, _ => .no
def appK (i : Nat) (as : List Ag) (s : Sx) : Re Sl := app2 i as s[i]? s
def app1 (i : Nat) (a : Sx → Re (List Ag)) (o : Option Sl) (s : Sx) : Re Sl :=
  match o with
  | some (.o _ (.lst _)) => (a s).bind (appK i)
  | _ => .no
def ext2 (i : Nat) (as : List Ag) (o : Option Sl) (s : Sx) : Re Sl :=
  match as, o with
  | [.v (.lst es)], some (.o t (.lst ds)) => if ds.length + es.length ≤ PySem.sizeLine then .ok (.v .non) (s.set i (.o t (.lst (ds ++ es)))) else .no
  | _, _ => .no
def extK (i : Nat) (as : List Ag) (s : Sx) : Re Sl := ext2 i as s[i]? s
def ext1 (i : Nat) (a : Sx → Re (List Ag)) (o : Option Sl) (s : Sx) : Re Sl :=
  match o with
  | some (.o _ (.lst _)) => (a s).bind (extK i)
  | _ => .no
def ins2 (i : Nat) (as : List Ag) (o : Option Sl) (s : Sx) : Re Sl :=
  match as, o with
  | [.v (.int n), .v d], some (.o t (.lst ds)) => if ds.length < PySem.sizeLine ∧ 0 ≤ n ∧ n < 2 ^ 63 then .ok (.v .non) (s.set i (.o t (.lst (ds.take n.toNat ++ [d] ++ ds.drop n.toNat)))) else .no
  | _, _ => .no
def insK (i : Nat) (as : List Ag) (s : Sx) : Re Sl := ins2 i as s[i]? s
def ins1 (i : Nat) (a : Sx → Re (List Ag)) (o : Option Sl) (s : Sx) : Re Sl :=
  match o with
  | some (.o _ (.lst _)) => (a s).bind (insK i)
  | _ => .no
def rcK (m : Rc) (b : Bool) (s : Sx) : Re Sl :=
  match m with
  | .ok r => if (b && !flatS r) = true then .no else .ok r s
  | .ex x => if (b && !flatDs x.ds) = true then .no else .ex x s
  | .no => .no
def cpL (n : Nat) (F : List D → Rc) (o : Option (List D × Bool)) (s : Sx) : Re Sl :=
  match o with
  | none => .no
  | some (ds, b) => if ds.length = n then rcK (F ds) b s else .no
def cpK (n : Nat) (F : List D → Rc) (as : List Ag) (s : Sx) : Re Sl := cpL n F (look s as) s
def rmK (i t : Nat) (m : RcM) (s : Sx) : Re Sl :=
  match m with
  | .ok .no _ => .no
  | .ok (.x _) _ => .no
  | .ok r c' => .ok r (s.set i (.o t c'))
  | .ex x c' => .ex x (s.set i (.o t c'))
  | .no => .no
def cm2 (n : Nat) (F : Cell → List D → RcM) (i : Nat) (ds : Option (List D)) (o : Option Sl) (s : Sx) : Re Sl :=
  match ds, o with
  | some ds, some (.o t c) => if ds.length + 1 = n then rmK i t (F c ds) s else .no
  | _, _ => .no
def cmK (n : Nat) (F : Cell → List D → RcM) (i : Nat) (as : List Ag) (s : Sx) : Re Sl := cm2 n F i (allV as) s[i]? s
def cm1 (n : Nat) (F : Cell → List D → RcM) (i : Nat) (a : Sx → Re (List Ag)) (o : Option Sl) (s : Sx) : Re Sl :=
  match o with
  | some (.o _ _) => (a s).bind (cmK n F i)
  | _ => .no
def avK (d : D) (o : Option (List D)) : Option (List D) :=
  match o with
  | some ds => some (d :: ds)
  | none => none
def itL (o : Option (List D)) (s : Sx) : Re (List D) :=
  match o with
  | some ds => .ok ds s
  | none => .no
def itK (r : Sl) (s : Sx) : Re (List D) :=
  match fastS r with
  | some d => itL (seqD d) s
  | none => .no
def rg1K (as : List Ag) (s : Sx) : Re (List D) :=
  match as with
  | [.v (.int n)] => if n < 2 ^ 62 ∧ -(2 ^ 62) ≤ n then .ok ((List.range n.toNat).map fun i : Nat => .int (i : Int)) s else .no
  | _ => .no
def rg2K (as : List Ag) (s : Sx) : Re (List D) :=
  match as with
  | [.v (.int m), .v (.int n)] => if -(2 ^ 62) ≤ m ∧ m < 2 ^ 62 ∧ -(2 ^ 62) ≤ n ∧ n < 2 ^ 62 then .ok ((List.range (n - m).toNat).map fun i : Nat => .int (m + (i : Int))) s else .no
  | _ => .no
def lc2 (o : Option (List D × Sx)) : Re Sl :=
  match o with
  | some (xs, s2) => .ok (.o 0 (.lst xs)) s2
  | none => .no
def lcK (vs : List Nat) (g : D → Sx → Option Sx) (c : Option (Sx → Re Bool)) (e : Sx → Re Sl) (ds : List D) (s : Sx) : Re Sl := if ds.length ≤ PySem.sizeLine then lc2 (lcGo vs g c e ds (wipeS s vs)) else .no
def xf1 (fo : Nat → Option PySem.Str) (n : PySem.Str) (o : Option Sl) (s : Sx) : Re Sl :=
  match o with
  | some (.x e) => if fo e.c = some n then oD ((e.ks.zip e.ds).lookup n) s else .no
  | _ => .no
def isx2 (o : Option Bool) (s : Sx) : Re Sl :=
  match o with
  | some b => .ok (.v (.bl b)) s
  | none => .no
def isx1 (sub : Nat → Nat → Option Bool) (k : Nat) (o : Option Sl) (s : Sx) : Re Sl :=
  match o with
  | some (.x e) => isx2 (sub e.c k) s
  | _ => .no
def nxK (_ : Sl) (s : Sx) : Rs := .nx s
def rtK (r : Sl) (s : Sx) : Rs := .rt r s
def sgK (i : Nat) (r : Sl) (s : Sx) : Rs := .nx (s.set i r)
def szK (i : Nat) (r : Sl) (s : Sx) : Rs :=
  match fastS r with
  | some d => .nx (s.set i (.v d))
  | none => .no
def iK (a b : Sx → Rs) (k : Bool) (s : Sx) : Rs := if k = true then a s else b s
def au3 (i : Nat) (o : Option Sl) (s : Sx) : Rs :=
  match o with
  | some .no => .no
  | some (.x _) => .no
  | some r => .nx (s.set i r)
  | none => .no
def au2 (i : Nat) (p : List D → Option Sl) (d : D) (r : Sl) (s : Sx) : Rs :=
  match fastS r with
  | some y => au3 i (p [d, y]) s
  | none => .no
def au1 (i : Nat) (p : List D → Option Sl) (e : Sx → Re Sl) (o : Option Sl) (s : Sx) : Rs :=
  match o with
  | some (.v d) => (e s).st (au2 i p d)
  | _ => .no
def st4 (i t : Nat) (ds : List D) (d : D) (o : Option Nat) (s : Sx) : Rs :=
  match o with
  | some m => .nx (s.set i (.o t (.lst (ds.set m d))))
  | none => .no
def st3 (i : Nat) (d : D) (as : List Ag) (o : Option Sl) (s : Sx) : Rs :=
  match as, o with
  | [.v (.int k)], some (.o t (.lst ds)) => st4 i t ds d (L2.ixN ds.length k) s
  | _, _ => .no
def st2K (i : Nat) (d : D) (as : List Ag) (s : Sx) : Rs := st3 i d as s[i]? s
def st2 (i : Nat) (ix : Sx → Re (List Ag)) (o : Option D) (p : Option Sl) (s : Sx) : Rs :=
  match o, p with
  | some d, some (.o _ _) => (ix s).st (st2K i d)
  | _, _ => .no
def st1K (i : Nat) (ix : Sx → Re (List Ag)) (r : Sl) (s : Sx) : Rs := st2 i ix (fastS r) s[i]? s
def st1 (i : Nat) (e : Sx → Re Sl) (ix : Sx → Re (List Ag)) (o : Option Sl) (s : Sx) : Rs :=
  match o with
  | some (.o _ _) => (e s).st (st1K i ix)
  | _ => .no
def foK (g : D → Sx → Option Sx) (b : Sx → Rs) (ds : List D) (s : Sx) : Rs := forGo g b ds s
def rsK (k : Nat) (fld : PySem.Str) (as : List Ag) (s : Sx) : Rs :=
  match as with
  | [.v d] => .ex ⟨k, [fld], [d]⟩ s
  | _ => .no
def tyK (sub : Nat → Nat → Option Bool) (hs : List Hd) (m : Rs) : Rs :=
  match m with
  | .ex x s1 => hGo sub x hs s1
  | o => o
def hK (sub : Nat → Nat → Option Bool) (x : Xn) (oi : Option Nat) (f : Sx → Rs) (r : List Hd) (o : Option Bool) (s : Sx) : Rs :=
  match o with
  | some true => if noX s = true then cln oi (f (match oi with | none => s | some i => s.set i (.x x))) else .no
  | some false => hGo sub x r s
  | none => .no
def rpK (m : Rs) : Rc :=
  match m with
  | .nx _ => .ok (.v .non)
  | .rt .no _ => .no
  | .rt (.x _) _ => .no
  | .rt r _ => .ok (untag r)
  | .ex x _ => .ex x
  | _ => .no
def rmR (m : Rs) : RcM :=
  match m with
  | .nx (.o 1 c' :: _) => .ok (.v .non) c'
  | .rt .no _ => .no
  | .rt (.x _) _ => .no
  | .rt r (.o 1 c' :: _) => .ok (untag r) c'
  | .ex x (.o 1 c' :: _) => .ex x c'
  | _ => .no
def mpV (o : Option D) : Option Sl :=
  match o with
  | some d => some (.v d)
  | none => none
def rg3K (as : List Ag) (s : Sx) : Re (List D) :=
  match as with
  | [.v (.int i), .v (.int j), .v (.int k)] =>
    match rg3N i j k with
    | some n => .ok ((List.range n).map fun m : Nat => .int (i + (m : Int) * k)) s
    | none => .no
  | _ => .no
def rg3L (i k : Int) (o : Option Nat) (s : Sx) : Re (List D) :=
  match o with
  | some n => .ok ((List.range n).map fun m : Nat => .int (i + (m : Int) * k)) s
  | none => .no
def tgo (r : List D → Sx → Option Sx) (ds : List D) (o : Option Sx) : Option Sx :=
  match o with
  | some s => r ds s
  | none => none
def nxO (o : Option Sx) : Rs :=
  match o with
  | some s => .nx s
  | none => .no
def atK (g : D → Sx → Option Sx) (r : Sl) (s : Sx) : Rs :=
  match fastS r with
  | some d => nxO (g d s)
  | none => .no
def bmB (p : List D → Option Sl) (a0 : Ag) (bs : List Ag) (s : Sx) : Re Sl := kO p (a0 :: bs) s
def bm1 (T : String) (p : List D → Option Sl) (a : Sx → Re (List Ag)) (a0 : Ag) (o : Option (List D × Bool)) (s : Sx) : Re Sl :=
  match o with
  | some ([d], _) => if tyQ d = some T then (a s).bind (bmB p a0) else .no
  | _ => .no
def bmK (T : String) (p : List D → Option Sl) (a : Sx → Re (List Ag)) (as : List Ag) (s : Sx) : Re Sl :=
  match as with
  | [a0] => bm1 T p a a0 (look s [a0]) s
  | _ => .no
def bm01 (T : String) (p : List D → Option Sl) (a0 : Ag) (o : Option (List D × Bool)) (s : Sx) : Re Sl :=
  match o with
  | some ([d], _) => if tyQ d = some T then kO p [a0] s else .no
  | _ => .no
def bm0K (T : String) (p : List D → Option Sl) (as : List Ag) (s : Sx) : Re Sl :=
  match as with
  | [a0] => bm01 T p a0 (look s [a0]) s
  | _ => .no
def om3 (i t : Nat) (o : Option (D × Cell)) (s : Sx) : Re Sl :=
  match o with
  | some (d, c) => .ok (.v d) (s.set i (.o t c))
  | none => .no
def om2 (q : Cell → List D → Option (D × Cell)) (i : Nat) (o : Option (List D)) (x : Option Sl) (s : Sx) : Re Sl :=
  match o, x with
  | some ds, some (.o t c) => om3 i t (q c ds) s
  | _, _ => .no
def omK (q : Cell → List D → Option (D × Cell)) (i : Nat) (as : List Ag) (s : Sx) : Re Sl := om2 q i (allV as) s[i]? s
def om1 (T : String) (q : Cell → List D → Option (D × Cell)) (i : Nat) (a : Sx → Re (List Ag)) (x : Option Sl) (s : Sx) : Re Sl :=
  match x with
  | some (.o _ c) => if tyCell c = T then (a s).bind (omK q i) else .no
  | _ => .no
def om01 (T : String) (q : Cell → List D → Option (D × Cell)) (i : Nat) (x : Option Sl) (s : Sx) : Re Sl :=
  match x with
  | some (.o t c) => if tyCell c = T then om3 i t (q c []) s else .no
  | _ => .no
def setL (ds : List D) (d : D) (o : Option Nat) : Option Cell :=
  match o with
  | some m => some (.lst (ds.set m d))
  | none => none
def sc4 (i t : Nat) (o : Option Cell) (s : Sx) : Rs :=
  match o with
  | some c => .nx (s.set i (.o t c))
  | none => .no
def sc3 (i : Nat) (d : D) (as : List Ag) (o : Option Sl) (s : Sx) : Rs :=
  match as, o with
  | [.v k], some (.o t c) => sc4 i t (setC c k d) s
  | _, _ => .no
def sc2K (i : Nat) (d : D) (as : List Ag) (s : Sx) : Rs := sc3 i d as s[i]? s
def sc2 (i : Nat) (ix : Sx → Re (List Ag)) (o : Option D) (p : Option Sl) (s : Sx) : Rs :=
  match o, p with
  | some d, some (.o _ _) => (ix s).st (sc2K i d)
  | _, _ => .no
def sc1K (i : Nat) (ix : Sx → Re (List Ag)) (r : Sl) (s : Sx) : Rs := sc2 i ix (fastS r) s[i]? s
def sc1 (i : Nat) (e : Sx → Re Sl) (ix : Sx → Re (List Ag)) (o : Option Sl) (s : Sx) : Rs :=
  match o with
  | some (.o _ _) => (e s).st (sc1K i ix)
  | _ => .no
def ixC2 (as : List Ag) (o : Option Sl) (s : Sx) : Re Sl :=
  match as, o with
  | [.v k], some (.o _ c) => oD (atC c k) s
  | _, _ => .no
def ixCK (i : Nat) (as : List Ag) (s : Sx) : Re Sl := ixC2 as s[i]? s
def ixC1 (i : Nat) (g : Sx → Re (List Ag)) (f : Sx → Re Sl) (o : Option Sl) (s : Sx) : Re Sl :=
  match o with
  | some (.o _ _) => (g s).bind (ixCK i)
  | _ => f s
def mpI (o : Option Nat) : Option Sl :=
  match o with
  | some j => some (.v (.int (j : Nat)))
  | none => none
def itWK (r : Sl) (s : Sx) : Re (List D) :=
  match fastS r with
  | some (.lst ds) => .ok ds s
  | some (.tup ds) => .ok ds s
  | _ => .no
def mpC (o : Option Nat) : Option Sl :=
  match o with
  | some c => some (.v (.str ⟨#[c]⟩))
  | none => none
section
open Classical
variable [CA]
noncomputable def fld1 (c : Nat) (f : PySem.Str) (o : Option Sl) (s : Sx) : Re Sl :=
  match o with
  | some (.o _ (.obj C ks ds)) => if C = CA.at_ c then oD (fldD f ks ds) s else .no
  | _ => .no
noncomputable def stA3 (c : Nat) (f : PySem.Str) (i : Nat) (x : Option D) (o : Option Sl) (s : Sx) : Rs :=
  match x, o with
  | some d, some (.o t (.obj C ks ds)) => if C = CA.at_ c ∧ ks.length < 1000 then .nx (s.set i (.o t (.obj C (putK f ks) (putDs f d ks ds)))) else .no
  | _, _ => .no
noncomputable def stA2 (c : Nat) (f : PySem.Str) (i : Nat) (r : Sl) (s : Sx) : Rs := stA3 c f i (fastS r) s[i]? s
noncomputable def stA1 (c : Nat) (f : PySem.Str) (i : Nat) (e : Sx → Re Sl) (o : Option Sl) (s : Sx) : Rs :=
  match o with
  | some (.o _ _) => (e s).st (stA2 c f i)
  | _ => .no
noncomputable def mkR (c : Nat) (m : RcM) (s : Sx) : Re Sl :=
  match m with
  | .ok (.v .non) c' => .ok (.o 0 c') s
  | .ex x _ => .ex x s
  | _ => .no
noncomputable def mkL (c n : Nat) (F : Cell → List D → RcM) (o : Option (List D)) (s : Sx) : Re Sl :=
  match o with
  | some ds => if ds.length + 1 = n then mkR c (F (.obj (CA.at_ c) [] []) ds) s else .no
  | none => .no
noncomputable def mkK (c n : Nat) (F : Cell → List D → RcM) (as : List Ag) (s : Sx) : Re Sl := mkL c n F (allV as) s
noncomputable def me4 (n : Nat) (F : List D → Rc) (x : D) (o : Option (List D × Bool)) (s : Sx) : Re Sl :=
  match o with
  | none => .no
  | some (ds, b) => if ds.length + 1 = n then rcK (F (x :: ds)) b s else .no
noncomputable def me3 (n : Nat) (F : List D → Rc) (x : D) (as : List Ag) (s : Sx) : Re Sl := me4 n F x (look s as) s
noncomputable def me2 (c : Nat) (m : PySem.Str) (n : Nat) (F : List D → Rc) (a : Sx → Re (List Ag)) (o : Option D) (s : Sx) : Re Sl :=
  match o with
  | some (.obj C ks vs) => if C = CA.at_ c ∧ m ∉ ks then (a s).bind (me3 n F (.obj C ks vs)) else .no
  | _ => .no
noncomputable def me1 (c : Nat) (m : PySem.Str) (n : Nat) (F : List D → Rc) (a : Sx → Re (List Ag)) (r : Sl) (s : Sx) : Re Sl := me2 c m n F a (fastS r) s
noncomputable def mz2 (c : Nat) (m : PySem.Str) (F : List D → Rc) (o : Option D) (s : Sx) : Re Sl :=
  match o with
  | some (.obj C ks vs) => if C = CA.at_ c ∧ m ∉ ks then rcK (F [.obj C ks vs]) false s else .no
  | _ => .no
noncomputable def mz1 (c : Nat) (m : PySem.Str) (F : List D → Rc) (r : Sl) (s : Sx) : Re Sl := mz2 c m F (fastS r) s
def lnR (m : Rc) : Option Sl :=
  match m with
  | .ok (.v (.int n)) => if 0 ≤ n ∧ n < 2 ^ 63 then some (.v (.int n)) else none
  | _ => none
def blR (m : Rc) : Option Sl :=
  match m with
  | .ok (.v (.bl b)) => some (.v (.bl b))
  | _ => none
end
def enuK (as : List Ag) (s : Sx) : Re (List D) :=
  match as with
  | [.v (.lst ds)] => .ok (enD 0 ds) s
  | [.v (.tup ds)] => .ok (enD 0 ds) s
  | _ => .no
variable {α β : Type} {s : Sx} {i t : Nat} {d : D} {c : Cell} {ds : List D} {ks : List L2.Key} {C : Addr} {os : List PySem.Str} {n : Int} {b : Bool} {z : PySem.Str}
theorem bind_ok {a : α} {k : α → Sx → Re β} : (Re.ok a s).bind k = k a s := Eq.mpr rfl rfl
theorem bind_ex {x : Xn} {k : α → Sx → Re β} : (Re.ex x s : Re α).bind k = .ex x s := Eq.mpr rfl rfl
theorem bind_no {k : α → Sx → Re β} : (Re.no : Re α).bind k = .no := Eq.mpr rfl rfl
theorem st_ok {a : α} {k : α → Sx → Rs} : (Re.ok a s).st k = k a s := Eq.mpr rfl rfl
theorem st_ex {x : Xn} {k : α → Sx → Rs} : (Re.ex x s : Re α).st k = .ex x s := Eq.mpr rfl rfl
theorem st_no {k : α → Sx → Rs} : (Re.no : Re α).st k = .no := Eq.mpr rfl rfl
theorem thn_nx {k : Sx → Rs} : (Rs.nx s).thn k = k s := Eq.mpr rfl rfl
theorem thn_rt {r : Sl} {k : Sx → Rs} : (Rs.rt r s).thn k = .rt r s := Eq.mpr rfl rfl
theorem thn_bk {k : Sx → Rs} : (Rs.bk s).thn k = .bk s := Eq.mpr rfl rfl
theorem thn_ct {k : Sx → Rs} : (Rs.ct s).thn k = .ct s := Eq.mpr rfl rfl
theorem thn_ex {x : Xn} {k : Sx → Rs} : (Rs.ex x s).thn k = .ex x s := Eq.mpr rfl rfl
theorem thn_no {k : Sx → Rs} : Rs.no.thn k = .no := Eq.mpr rfl rfl
theorem blk_nil : blk [] s = .nx s := Eq.mpr rfl rfl
theorem blk_one {f : Sx → Rs} : blk [f] s = f s := by
  show (match f s with | .nx s1 => _ | .rt r s => _ | .bk s => _ | .ct s => _ | .ex x s => _ | .no => _ : Rs) = f s
  cases f s <;> rfl
theorem blk_cons {f g : Sx → Rs} {r : List (Sx → Rs)} : blk (f :: g :: r) s = (f s).thn (blk (g :: r)) := Eq.mpr rfl rfl
theorem kV_r {as : List Ag} : kV d as s = .ok (.v d :: as) s := Eq.mpr rfl rfl
theorem kSi_r {as : List Ag} : kSi i as s = .ok (.s i :: as) s := Eq.mpr rfl rfl
theorem kE_vd17 {r : Sx → Re (List Ag)} : kE r (.v d) s = (r s).bind (kV d) := Eq.mpr rfl rfl
theorem kE_ol18 {r : Sx → Re (List Ag)} : kE r (.o t (.lst ds)) s = (r s).bind (kV (.lst ds)) := Eq.mpr rfl rfl
theorem kE_od19 {r : Sx → Re (List Ag)} : kE r (.o t (.dic ks ds)) s = (r s).bind (kV (.dic ks ds)) := Eq.mpr rfl rfl
theorem kE_oo20 {r : Sx → Re (List Ag)} : kE r (.o t (.obj C os ds)) s = (r s).bind (kV (.obj C os ds)) := Eq.mpr rfl rfl
theorem kS_v {r : Sx → Re (List Ag)} : kS i r (some (.v d)) s = (r s).bind (kV d) := Eq.mpr rfl rfl
theorem kS_o {r : Sx → Re (List Ag)} : kS i r (some (.o t c)) s = (r s).bind (kSi i) := Eq.mpr rfl rfl
theorem aN_r : aN s = .ok [] s := Eq.mpr rfl rfl
theorem aE_r {e : Sx → Re Sl} {r : Sx → Re (List Ag)} : aE e r s = (e s).bind (kE r) := Eq.mpr rfl rfl
theorem aS_r {r : Sx → Re (List Ag)} : aS i r s = kS i r s[i]? s := Eq.mpr rfl rfl
theorem look_nil : look s [] = some ([], false) := Eq.mpr rfl rfl
theorem look_v {as : List Ag} : look s (.v d :: as) = lkv d (look s as) := Eq.mpr rfl rfl
theorem look_s {as : List Ag} : look s (.s i :: as) = lks s[i]? (look s as) := Eq.mpr rfl rfl
theorem lkv_r {b : Bool} : lkv d (some (ds, b)) = some (d :: ds, b) := Eq.mpr rfl rfl
theorem lks_v {o : Option (List D × Bool)} : lks (some (.v d)) o = lkv d o := Eq.mpr rfl rfl
theorem lks_l {es : List D} {b : Bool} : lks (some (.o t (.lst ds))) (some (es, b)) = some (.lst ds :: es, true) := Eq.mpr rfl rfl
theorem lks_d {es : List D} {b : Bool} : lks (some (.o t (.dic ks ds))) (some (es, b)) = some (.dic ks ds :: es, true) := Eq.mpr rfl rfl
theorem lks_o {es : List D} {b : Bool} : lks (some (.o t (.obj C os ds))) (some (es, b)) = some (.obj C os ds :: es, true) := Eq.mpr rfl rfl
theorem kO_r {p : List D → Option Sl} {as : List Ag} : kO p as s = oL p (look s as) s := Eq.mpr rfl rfl
theorem oL_r {p : List D → Option Sl} {b : Bool} : oL p (some (ds, b)) s = oP (p ds) b s := Eq.mpr rfl rfl
theorem oP_f {x : Sl} : oP (some x) false s = .ok x s := Eq.mpr rfl rfl
theorem oP_t37 : oP (some (.v (.int n))) true s = .ok (.v (.int n)) s := Eq.mpr rfl rfl
theorem oP_t38 : oP (some (.v (.bl b))) true s = .ok (.v (.bl b)) s := Eq.mpr rfl rfl
theorem oP_t39 : oP (some (.v (.str z))) true s = .ok (.v (.str z)) s := Eq.mpr rfl rfl
theorem oP_t40 : oP (some (.v .non)) true s = .ok (.v .non) s := Eq.mpr rfl rfl
theorem oP_tt : oP (some (.v (.tup ds))) true s = if flatDs ds = true then .ok (.v (.tup ds)) s else .no := by
  show (if (true && !flatDs ds) = true then Re.no else Re.ok (Sl.v (.tup ds)) s) = _
  cases flatDs ds <;> rfl
theorem oP_tl : oP (some (.o t (.lst ds))) true s = if flatDs ds = true then .ok (.o t (.lst ds)) s else .no := by
  show (if (true && !flatDs ds) = true then Re.no else Re.ok (Sl.o t (.lst ds)) s) = _
  cases flatDs ds <;> rfl
theorem oP_n {b : Bool} : oP none b s = .no := Eq.mpr rfl rfl
theorem opF_r {p : List D → Option Sl} {a : Sx → Re (List Ag)} : opF p a s = (a s).bind (kO p) := Eq.mpr rfl rfl
theorem kT_r {p : List D → Option Sl} {as : List Ag} : kT p as s = tL p (look s as) s := Eq.mpr rfl rfl
theorem tL_r {p : List D → Option Sl} {b : Bool} : tL p (some (ds, b)) s = tP (p ds) s := Eq.mpr rfl rfl
theorem tP_r : tP (some (.v (.bl b))) s = .ok b s := Eq.mpr rfl rfl
theorem tOpF_r {p : List D → Option Sl} {a : Sx → Re (List Ag)} : tOpF p a s = (a s).bind (kT p) := Eq.mpr rfl rfl
theorem kU_r {f : D → Option Bool} {as : List Ag} : kU f as s = uL f (look s as) s := Eq.mpr rfl rfl
theorem uL_r {f : D → Option Bool} {b : Bool} : uL f (some ([d], b)) s = tU (f d) s := Eq.mpr rfl rfl
theorem tU_r : tU (some b) s = .ok b s := Eq.mpr rfl rfl
theorem tTru_r {f : D → Option Bool} {a : Sx → Re (List Ag)} : tTru f a s = (a s).bind (kU f) := Eq.mpr rfl rfl
theorem cst_r : cst d s = .ok (.v d) s := Eq.mpr rfl rfl
theorem mv_r : mv i s = mvK i s[i]? s := Eq.mpr rfl rfl
theorem mvK_v : mvK i (some (.v d)) s = .ok (.v d) s := Eq.mpr rfl rfl
theorem mvK_o : mvK i (some (.o t c)) s = .ok (.o t c) (s.set i .no) := Eq.mpr rfl rfl
theorem fz_r : fz i s = fzK i s[i]? s := Eq.mpr rfl rfl
theorem fzK_v : fzK i (some (.v d)) s = .ok (.v d) s := Eq.mpr rfl rfl
theorem fzK_l : fzK i (some (.o t (.lst ds))) s = .ok (.v (.lst ds)) (s.set i (.v (.lst ds))) := Eq.mpr rfl rfl
theorem fzK_o : fzK i (some (.o t (.obj C os ds))) s = .ok (.v (.obj C os ds)) (s.set i (.v (.obj C os ds))) := Eq.mpr rfl rfl
theorem fzK_d : fzK i (some (.o t (.dic ks ds))) s = .ok (.v (.dic ks ds)) (s.set i (.v (.dic ks ds))) := Eq.mpr rfl rfl
theorem tNot_r {f : Sx → Re Bool} : tNot f s = (f s).bind ntK := Eq.mpr rfl rfl
theorem ntK_r : ntK b s = .ok (!b) s := Eq.mpr rfl rfl
theorem wAnd_r {f r : Sx → Re Bool} : wAnd f r s = (f s).bind (andK r) := Eq.mpr rfl rfl
theorem wOr_r {f r : Sx → Re Bool} : wOr f r s = (f s).bind (orK r) := Eq.mpr rfl rfl
theorem andK_r {r : Sx → Re Bool} : andK r b s = if b = true then r s else .ok false s := Eq.mpr rfl rfl
theorem orK_r {r : Sx → Re Bool} : orK r b s = if b = true then .ok true s else r s := Eq.mpr rfl rfl
theorem tVal_r {e : Sx → Re Sl} : tVal e s = (e s).bind vlK := Eq.mpr rfl rfl
theorem vlK_r : vlK (.v (.bl b)) s = .ok b s := Eq.mpr rfl rfl
theorem eNot_r {f : D → Option Bool} {a : Sx → Re (List Ag)} : eNot f a s = (tTru f a s).bind enK := Eq.mpr rfl rfl
theorem enK_r : enK b s = .ok (.v (.bl (!b))) s := Eq.mpr rfl rfl
theorem eAnd_r {e r : Sx → Re Sl} : eAnd e r s = (e s).bind (eaK r) := Eq.mpr rfl rfl
theorem eOr_r {e r : Sx → Re Sl} : eOr e r s = (e s).bind (eoK r) := Eq.mpr rfl rfl
theorem eaK_r {r : Sx → Re Sl} : eaK r (.v (.bl b)) s = if b = true then r s else .ok (.v (.bl false)) s := Eq.mpr rfl rfl
theorem eoK_r {r : Sx → Re Sl} : eoK r (.v (.bl b)) s = if b = true then .ok (.v (.bl true)) s else r s := Eq.mpr rfl rfl
theorem eIf_r {f : Sx → Re Bool} {a b : Sx → Re Sl} : eIf f a b s = (f s).bind (eiK a b) := Eq.mpr rfl rfl
theorem eiK_r {x y : Sx → Re Sl} : eiK x y b s = if b = true then x s else y s := Eq.mpr rfl rfl
theorem ixO_r {g : Sx → Re (List Ag)} {f : Sx → Re Sl} : ixO i g f s = ixO1 i g f s[i]? s := Eq.mpr rfl rfl
theorem ixO1_l {g : Sx → Re (List Ag)} {f : Sx → Re Sl} : ixO1 i g f (some (.o t (.lst ds))) s = (g s).bind (ixOK i) := Eq.mpr rfl rfl
theorem ixO1_v {g : Sx → Re (List Ag)} {f : Sx → Re Sl} : ixO1 i g f (some (.v d)) s = f s := Eq.mpr rfl rfl
theorem ixOK_r {as : List Ag} : ixOK i as s = ixO2 as s[i]? s := Eq.mpr rfl rfl
theorem oD_r : oD (some d) s = .ok (.v d) s := Eq.mpr rfl rfl
theorem ixO2_r : ixO2 [.v (.int n)] (some (.o t (.lst ds))) s = oD (L2.atI ds n) s := Eq.mpr rfl rfl
theorem chF_r {p p' : List D → Option Sl} {a' c' : Sx → Re (List Ag)} : chF p p' a' c' s = (a' s).bind (chK p p' c') := by
  show (a' s).bind _ = (a' s).bind _
  congr 1
  funext as s1
  show _ = chK p p' c' as s1
  unfold chK
  split
  · rename_i x y
    show _ = ch1 p' c' y (p [x, y]) s1
    unfold ch1
    generalize p [x, y] = o
    cases o with
    | none => rfl
    | some r =>
      cases r with
      | v d =>
        cases d with
        | bl k =>
          cases k with
          | false => rfl
          | true =>
            show (c' s1).bind _ = (c' s1).bind _
            congr 1
        | _ => rfl
      | _ => rfl
  · rename_i h
    first
    | rfl
    | (split
       · rename_i x y
         exact absurd rfl (h x y)
       · rfl)
theorem chK_r {p p' : List D → Option Sl} {c' : Sx → Re (List Ag)} {x y : D} : chK p p' c' [.v x, .v y] s = ch1 p' c' y (p [x, y]) s := Eq.mpr rfl rfl
theorem ch1_r {p' : List D → Option Sl} {c' : Sx → Re (List Ag)} {y : D} : ch1 p' c' y (some (.v (.bl b))) s = if b = true then (c' s).bind (ch2 p' y) else .ok (.v (.bl false)) s := Eq.mpr rfl rfl
theorem ch2_r {p' : List D → Option Sl} {y z : D} : ch2 p' y [.v z] s = ch3 (p' [y, z]) s := Eq.mpr rfl rfl
theorem ch3_r : ch3 (some (.v d)) s = .ok (.v d) s := Eq.mpr rfl rfl
theorem sl2F_r {p : List D → Option Sl} {a' h' : Sx → Re (List Ag)} : sl2F p a' h' s = (a' s).bind (s2K p h') := Eq.mpr rfl rfl
theorem s2K_r {p : List D → Option Sl} {h' : Sx → Re (List Ag)} {a0 : Ag} : s2K p h' [a0, .v (.int n)] s = (h' s).bind (s22 p a0 n) := Eq.mpr rfl rfl
theorem s22_r {p : List D → Option Sl} {a0 : Ag} {m : Int} : s22 p a0 n [.v (.int m)] s = kO p [a0, .v (.int n), .v (.int m)] s := Eq.mpr rfl rfl
theorem appF_r {a' : Sx → Re (List Ag)} : appF i a' s = app1 i a' s[i]? s := Eq.mpr rfl rfl
theorem app1_r {a' : Sx → Re (List Ag)} : app1 i a' (some (.o t (.lst ds))) s = (a' s).bind (appK i) := Eq.mpr rfl rfl
theorem appK_r {as : List Ag} : appK i as s = app2 i as s[i]? s := Eq.mpr rfl rfl
theorem app2_r  : app2 i [.v d] (some (.o t (.lst ds))) s = if ds.length < PySem.sizeLine then .ok (.v .non) (s.set i (.o t (.lst (ds ++ [d])))) else .no := Eq.mpr rfl rfl
theorem extF_r {a' : Sx → Re (List Ag)} : extF i a' s = ext1 i a' s[i]? s := Eq.mpr rfl rfl
theorem ext1_r {a' : Sx → Re (List Ag)} : ext1 i a' (some (.o t (.lst ds))) s = (a' s).bind (extK i) := Eq.mpr rfl rfl
theorem extK_r {as : List Ag} : extK i as s = ext2 i as s[i]? s := Eq.mpr rfl rfl
theorem ext2_r {es : List D} : ext2 i [.v (.lst es)] (some (.o t (.lst ds))) s = if ds.length + es.length ≤ PySem.sizeLine then .ok (.v .non) (s.set i (.o t (.lst (ds ++ es)))) else .no := Eq.mpr rfl rfl
theorem insF_r {a' : Sx → Re (List Ag)} : insF i a' s = ins1 i a' s[i]? s := Eq.mpr rfl rfl
theorem ins1_r {a' : Sx → Re (List Ag)} : ins1 i a' (some (.o t (.lst ds))) s = (a' s).bind (insK i) := Eq.mpr rfl rfl
theorem insK_r {as : List Ag} : insK i as s = ins2 i as s[i]? s := Eq.mpr rfl rfl
theorem ins2_r  : ins2 i [.v (.int n), .v d] (some (.o t (.lst ds))) s = if ds.length < PySem.sizeLine ∧ 0 ≤ n ∧ n < 2 ^ 63 then .ok (.v .non) (s.set i (.o t (.lst (ds.take n.toNat ++ [d] ++ ds.drop n.toNat)))) else .no := Eq.mpr rfl rfl
theorem callP_r {k : Nat} {F : List D → Rc} {a' : Sx → Re (List Ag)} : callP k F a' s = (a' s).bind (cpK k F) := Eq.mpr rfl rfl
theorem cpK_r {k : Nat} {F : List D → Rc} {as : List Ag} : cpK k F as s = cpL k F (look s as) s := Eq.mpr rfl rfl
theorem cpL_1 {F : List D → Rc} {x0 : D} {b : Bool} : cpL 1 F (some ([x0], b)) s = rcK (F [x0]) b s := Eq.mpr rfl rfl
theorem cpL_2 {F : List D → Rc} {x0 x1 : D} {b : Bool} : cpL 2 F (some ([x0, x1], b)) s = rcK (F [x0, x1]) b s := Eq.mpr rfl rfl
theorem cpL_3 {F : List D → Rc} {x0 x1 x2 : D} {b : Bool} : cpL 3 F (some ([x0, x1, x2], b)) s = rcK (F [x0, x1, x2]) b s := Eq.mpr rfl rfl
theorem cpL_4 {F : List D → Rc} {x0 x1 x2 x3 : D} {b : Bool} : cpL 4 F (some ([x0, x1, x2, x3], b)) s = rcK (F [x0, x1, x2, x3]) b s := Eq.mpr rfl rfl
theorem cpL_5 {F : List D → Rc} {x0 x1 x2 x3 x4 : D} {b : Bool} : cpL 5 F (some ([x0, x1, x2, x3, x4], b)) s = rcK (F [x0, x1, x2, x3, x4]) b s := Eq.mpr rfl rfl
theorem cpL_6 {F : List D → Rc} {x0 x1 x2 x3 x4 x5 : D} {b : Bool} : cpL 6 F (some ([x0, x1, x2, x3, x4, x5], b)) s = rcK (F [x0, x1, x2, x3, x4, x5]) b s := Eq.mpr rfl rfl
theorem cpL_7 {F : List D → Rc} {x0 x1 x2 x3 x4 x5 x6 : D} {b : Bool} : cpL 7 F (some ([x0, x1, x2, x3, x4, x5, x6], b)) s = rcK (F [x0, x1, x2, x3, x4, x5, x6]) b s := Eq.mpr rfl rfl
theorem cpL_8 {F : List D → Rc} {x0 x1 x2 x3 x4 x5 x6 x7 : D} {b : Bool} : cpL 8 F (some ([x0, x1, x2, x3, x4, x5, x6, x7], b)) s = rcK (F [x0, x1, x2, x3, x4, x5, x6, x7]) b s := Eq.mpr rfl rfl
theorem rcK_f {x : Sl} : rcK (.ok x) false s = .ok x s := Eq.mpr rfl rfl
theorem rcK_t115 : rcK (.ok (.v (.int n))) true s = .ok (.v (.int n)) s := Eq.mpr rfl rfl
theorem rcK_t116 : rcK (.ok (.v (.bl b))) true s = .ok (.v (.bl b)) s := Eq.mpr rfl rfl
theorem rcK_t117 : rcK (.ok (.v (.str z))) true s = .ok (.v (.str z)) s := Eq.mpr rfl rfl
theorem rcK_t118 : rcK (.ok (.v .non)) true s = .ok (.v .non) s := Eq.mpr rfl rfl
theorem rcK_tt : rcK (.ok (.v (.tup ds))) true s = if flatDs ds = true then .ok (.v (.tup ds)) s else .no := by
  show (if (true && !flatDs ds) = true then Re.no else Re.ok (Sl.v (.tup ds)) s) = _
  cases flatDs ds <;> rfl
theorem rcK_tl : rcK (.ok (.o t (.lst ds))) true s = if flatDs ds = true then .ok (.o t (.lst ds)) s else .no := by
  show (if (true && !flatDs ds) = true then Re.no else Re.ok (Sl.o t (.lst ds)) s) = _
  cases flatDs ds <;> rfl
theorem rcK_xf {x : Xn} : rcK (.ex x) false s = .ex x s := Eq.mpr rfl rfl
theorem rcK_xt {k : Nat} {fs : List PySem.Str} : rcK (.ex ⟨k, fs, ds⟩) true s = if flatDs ds = true then .ex ⟨k, fs, ds⟩ s else .no := by
  show (if (true && !flatDs ds) = true then Re.no else .ex ⟨k, fs, ds⟩ s) = _
  cases flatDs ds <;> rfl
theorem callM_r {k : Nat} {F : Cell → List D → RcM} {a' : Sx → Re (List Ag)} : callM k F i a' s = cm1 k F i a' s[i]? s := by
  show (match s[i]? with | some (.o _ _) => (a' s).bind _ | _ => .no : Re Sl) = (match s[i]? with | some (.o _ _) => (a' s).bind _ | _ => .no : Re Sl)
  cases s[i]? with
  | none => rfl
  | some y =>
    cases y with
    | o t c =>
      show (a' s).bind _ = (a' s).bind _
      congr 1
    | _ => rfl
theorem cm1_r {k : Nat} {F : Cell → List D → RcM} {a' : Sx → Re (List Ag)} : cm1 k F i a' (some (.o t c)) s = (a' s).bind (cmK k F i) := Eq.mpr rfl rfl
theorem cmK_r {k : Nat} {F : Cell → List D → RcM} {as : List Ag} : cmK k F i as s = cm2 k F i (allV as) s[i]? s := Eq.mpr rfl rfl
theorem cm2_0 {F : Cell → List D → RcM} : cm2 1 F i (some []) (some (.o t c)) s = rmK i t (F c []) s := Eq.mpr rfl rfl
theorem cm2_1 {F : Cell → List D → RcM} {x0 : D} : cm2 2 F i (some [x0]) (some (.o t c)) s = rmK i t (F c [x0]) s := Eq.mpr rfl rfl
theorem cm2_2 {F : Cell → List D → RcM} {x0 x1 : D} : cm2 3 F i (some [x0, x1]) (some (.o t c)) s = rmK i t (F c [x0, x1]) s := Eq.mpr rfl rfl
theorem cm2_3 {F : Cell → List D → RcM} {x0 x1 x2 : D} : cm2 4 F i (some [x0, x1, x2]) (some (.o t c)) s = rmK i t (F c [x0, x1, x2]) s := Eq.mpr rfl rfl
theorem cm2_4 {F : Cell → List D → RcM} {x0 x1 x2 x3 : D} : cm2 5 F i (some [x0, x1, x2, x3]) (some (.o t c)) s = rmK i t (F c [x0, x1, x2, x3]) s := Eq.mpr rfl rfl
theorem cm2_5 {F : Cell → List D → RcM} {x0 x1 x2 x3 x4 : D} : cm2 6 F i (some [x0, x1, x2, x3, x4]) (some (.o t c)) s = rmK i t (F c [x0, x1, x2, x3, x4]) s := Eq.mpr rfl rfl
theorem cm2_6 {F : Cell → List D → RcM} {x0 x1 x2 x3 x4 x5 : D} : cm2 7 F i (some [x0, x1, x2, x3, x4, x5]) (some (.o t c)) s = rmK i t (F c [x0, x1, x2, x3, x4, x5]) s := Eq.mpr rfl rfl
theorem rmK_v {c' : Cell} : rmK i t (.ok (.v d) c') s = .ok (.v d) (s.set i (.o t c')) := Eq.mpr rfl rfl
theorem rmK_o {u : Nat} {c' : Cell} : rmK i t (.ok (.o u c) c') s = .ok (.o u c) (s.set i (.o t c')) := Eq.mpr rfl rfl
theorem rmK_x {x : Xn} {c' : Cell} : rmK i t (.ex x c') s = .ex x (s.set i (.o t c')) := Eq.mpr rfl rfl
theorem allV_n : allV [] = some [] := Eq.mpr rfl rfl
theorem allV_v {as : List Ag} : allV (.v d :: as) = avK d (allV as) := Eq.mpr rfl rfl
theorem avK_r : avK d (some ds) = some (d :: ds) := Eq.mpr rfl rfl
theorem itF_r {e : Sx → Re Sl} : itF e s = (e s).bind itK := Eq.mpr rfl rfl
theorem itK_v : itK (.v d) s = itL (seqD d) s := Eq.mpr rfl rfl
theorem itK_l : itK (.o t (.lst ds)) s = .ok ds s := Eq.mpr rfl rfl
theorem itL_r : itL (some ds) s = .ok ds s := Eq.mpr rfl rfl
theorem seqD_143 : seqD (.lst ds) = some ds := Eq.mpr rfl rfl
theorem seqD_144 : seqD (.klst ds) = some ds := Eq.mpr rfl rfl
theorem seqD_145 : seqD (.tup ds) = some ds := Eq.mpr rfl rfl
theorem seqD_146 : seqD (.str z) = some (z.cps.toList.map fun c => .str ⟨#[c]⟩) := Eq.mpr rfl rfl
theorem rg1F_r {a' : Sx → Re (List Ag)} : rg1F a' s = (a' s).bind rg1K := Eq.mpr rfl rfl
theorem rg1K_r : rg1K [.v (.int n)] s = if n < 4611686018427387904 ∧ -4611686018427387904 ≤ n then .ok ((List.range n.toNat).map fun i : Nat => .int (i : Int)) s else .no := Eq.mpr rfl rfl
theorem rg2F_r {a' : Sx → Re (List Ag)} : rg2F a' s = (a' s).bind rg2K := Eq.mpr rfl rfl
theorem rg2K_r {m : Int} : rg2K [.v (.int m), .v (.int n)] s = if -4611686018427387904 ≤ m ∧ m < 4611686018427387904 ∧ -4611686018427387904 ≤ n ∧ n < 4611686018427387904 then .ok ((List.range (n - m).toNat).map fun i : Nat => .int (m + (i : Int))) s else .no := Eq.mpr rfl rfl
theorem lcF_r {vs : List Nat} {g : D → Sx → Option Sx} {c' : Option (Sx → Re Bool)} {e : Sx → Re Sl} {it : Sx → Re (List D)} : lcF vs g it c' e s = (it s).bind (lcK vs g c' e) := Eq.mpr rfl rfl
theorem lcK_r {vs : List Nat} {g : D → Sx → Option Sx} {c' : Option (Sx → Re Bool)} {e : Sx → Re Sl} : lcK vs g c' e ds s = if ds.length ≤ PySem.sizeLine then lc2 (lcGo vs g c' e ds (wipeS s vs)) else .no := Eq.mpr rfl rfl
theorem lc2_r : lc2 (some (ds, s)) = .ok (.o 0 (.lst ds)) s := Eq.mpr rfl rfl
theorem wipeS_nil : wipeS s [] = s := Eq.mpr rfl rfl
theorem wipeS_cons {is : List Nat} : wipeS s (i :: is) = (wipeS s is).set i .no := Eq.mpr rfl rfl
theorem xfF_r {fo : Nat → Option PySem.Str} {x : PySem.Str} : xfF fo i x s = xf1 fo x s[i]? s := by
  show (match s[i]? with | some (.x e) => _ | _ => _ : Re Sl) = _
  unfold xf1
  cases s[i]? with
  | none => rfl
  | some y => cases y <;> rfl
theorem xf1_r {fo : Nat → Option PySem.Str} {x y : PySem.Str} {k : Nat} : xf1 fo x (some (.x ⟨k, [y], [d]⟩)) s = if fo k = some x then oD (([y].zip [d]).lookup x) s else .no := Eq.mpr rfl rfl
theorem isxF_r {sub : Nat → Nat → Option Bool} {k : Nat} : isxF sub i k s = isx1 sub k s[i]? s := by
  show (match s[i]? with | some (.x e) => _ | _ => _ : Re Sl) = _
  unfold isx1
  cases s[i]? with
  | none => rfl
  | some y => cases y <;> rfl
theorem isx1_r {sub : Nat → Nat → Option Bool} {k j : Nat} {fs : List PySem.Str} : isx1 sub k (some (.x ⟨j, fs, ds⟩)) s = isx2 (sub j k) s := Eq.mpr rfl rfl
theorem isx2_r : isx2 (some b) s = .ok (.v (.bl b)) s := Eq.mpr rfl rfl
theorem exF_r {e : Sx → Re Sl} : exF e s = (e s).st nxK := Eq.mpr rfl rfl
theorem nxK_r {x : Sl} : nxK x s = .nx s := Eq.mpr rfl rfl
theorem retF_r {e : Sx → Re Sl} : retF e s = (e s).st rtK := Eq.mpr rfl rfl
theorem rtK_r {x : Sl} : rtK x s = .rt x s := Eq.mpr rfl rfl
theorem retN_r : retN s = .rt (.v .non) s := Eq.mpr rfl rfl
theorem asgF_r {e : Sx → Re Sl} : asgF i e s = (e s).st (sgK i) := Eq.mpr rfl rfl
theorem sgK_r {x : Sl} : sgK i x s = .nx (s.set i x) := Eq.mpr rfl rfl
theorem asgZ_r {e : Sx → Re Sl} : asgZ i e s = (e s).st (szK i) := Eq.mpr rfl rfl
theorem szK_v : szK i (.v d) s = .nx (s.set i (.v d)) := Eq.mpr rfl rfl
theorem szK_l : szK i (.o t (.lst ds)) s = .nx (s.set i (.v (.lst ds))) := Eq.mpr rfl rfl
theorem szK_d : szK i (.o t (.dic ks ds)) s = .nx (s.set i (.v (.dic ks ds))) := Eq.mpr rfl rfl
theorem szK_o : szK i (.o t (.obj C os ds)) s = .nx (s.set i (.v (.obj C os ds))) := Eq.mpr rfl rfl
theorem ifF_r {f : Sx → Re Bool} {x y : Sx → Rs} : ifF f x y s = (f s).st (iK x y) := Eq.mpr rfl rfl
theorem iK_r {x y : Sx → Rs} : iK x y b s = if b = true then x s else y s := Eq.mpr rfl rfl
theorem augF_r {p : List D → Option Sl} {e : Sx → Re Sl} : augF i p e s = au1 i p e s[i]? s := Eq.mpr rfl rfl
theorem au1_r {p : List D → Option Sl} {e : Sx → Re Sl} : au1 i p e (some (.v d)) s = (e s).st (au2 i p d) := Eq.mpr rfl rfl
theorem au2_v {p : List D → Option Sl} {y : D} : au2 i p d (.v y) s = au3 i (p [d, y]) s := Eq.mpr rfl rfl
theorem au2_l {p : List D → Option Sl} : au2 i p d (.o t (.lst ds)) s = au3 i (p [d, .lst ds]) s := Eq.mpr rfl rfl
theorem au3_v : au3 i (some (.v d)) s = .nx (s.set i (.v d)) := Eq.mpr rfl rfl
theorem au3_o : au3 i (some (.o t c)) s = .nx (s.set i (.o t c)) := Eq.mpr rfl rfl
theorem stF_r {e : Sx → Re Sl} {ix : Sx → Re (List Ag)} : stF i e ix s = st1 i e ix s[i]? s := Eq.mpr rfl rfl
theorem st1_r {e : Sx → Re Sl} {ix : Sx → Re (List Ag)} : st1 i e ix (some (.o t c)) s = (e s).st (st1K i ix) := Eq.mpr rfl rfl
theorem st1K_v {ix : Sx → Re (List Ag)} : st1K i ix (.v d) s = st2 i ix (some d) s[i]? s := Eq.mpr rfl rfl
theorem st1K_l {ix : Sx → Re (List Ag)} : st1K i ix (.o t (.lst ds)) s = st2 i ix (some (.lst ds)) s[i]? s := Eq.mpr rfl rfl
theorem st2_r {ix : Sx → Re (List Ag)} : st2 i ix (some d) (some (.o t c)) s = (ix s).st (st2K i d) := Eq.mpr rfl rfl
theorem st2K_r {as : List Ag} : st2K i d as s = st3 i d as s[i]? s := Eq.mpr rfl rfl
theorem st3_r : st3 i d [.v (.int n)] (some (.o t (.lst ds))) s = st4 i t ds d (L2.ixN ds.length n) s := Eq.mpr rfl rfl
theorem st4_r {m : Nat} : st4 i t ds d (some m) s = .nx (s.set i (.o t (.lst (ds.set m d)))) := Eq.mpr rfl rfl
theorem forF_r {g : D → Sx → Option Sx} {b' : Sx → Rs} {it : Sx → Re (List D)} : forF g it b' s = (it s).st (foK g b') := Eq.mpr rfl rfl
theorem foK_r {g : D → Sx → Option Sx} {b' : Sx → Rs} : foK g b' ds s = forGo g b' ds s := Eq.mpr rfl rfl
theorem rsF_r {k : Nat} {fld : PySem.Str} {a' : Sx → Re (List Ag)} : rsF k fld a' s = (a' s).st (rsK k fld) := Eq.mpr rfl rfl
theorem rsK_r {k : Nat} {fld : PySem.Str} : rsK k fld [.v d] s = .ex ⟨k, [fld], [d]⟩ s := Eq.mpr rfl rfl
theorem pasF_r : pasF s = .nx s := Eq.mpr rfl rfl
theorem brkF_r : brkF s = .bk s := Eq.mpr rfl rfl
theorem cntF_r : cntF s = .ct s := Eq.mpr rfl rfl
theorem tryF_r {sub : Nat → Nat → Option Bool} {hs : List Hd} {b' : Sx → Rs} : tryF sub b' hs s = tyK sub hs (b' s) := Eq.mpr rfl rfl
theorem tyK_x {sub : Nat → Nat → Option Bool} {hs : List Hd} {x : Xn} : tyK sub hs (.ex x s) = hGo sub x hs s := Eq.mpr rfl rfl
theorem tyK_n {sub : Nat → Nat → Option Bool} {hs : List Hd} : tyK sub hs (.nx s) = .nx s := Eq.mpr rfl rfl
theorem tyK_r {sub : Nat → Nat → Option Bool} {hs : List Hd} {x : Sl} : tyK sub hs (.rt x s) = .rt x s := Eq.mpr rfl rfl
theorem tyK_b {sub : Nat → Nat → Option Bool} {hs : List Hd} : tyK sub hs (.bk s) = .bk s := Eq.mpr rfl rfl
theorem tyK_c {sub : Nat → Nat → Option Bool} {hs : List Hd} : tyK sub hs (.ct s) = .ct s := Eq.mpr rfl rfl
theorem hGo_nil {sub : Nat → Nat → Option Bool} {x : Xn} : hGo sub x [] s = .ex x s := Eq.mpr rfl rfl
theorem hGo_cons {sub : Nat → Nat → Option Bool} {k j : Nat} {fs : List PySem.Str} {oi : Option Nat} {f : Sx → Rs} {hs : List Hd} : hGo sub ⟨j, fs, ds⟩ ((k, oi, f) :: hs) s = hK sub ⟨j, fs, ds⟩ oi f hs (sub j k) s := Eq.mpr rfl rfl
theorem hK_f {sub : Nat → Nat → Option Bool} {x : Xn} {oi : Option Nat} {f : Sx → Rs} {hs : List Hd} : hK sub x oi f hs (some false) s = hGo sub x hs s := Eq.mpr rfl rfl
theorem hK_n {sub : Nat → Nat → Option Bool} {x : Xn} {f : Sx → Rs} {hs : List Hd} : hK sub x none f hs (some true) s = if noX s = true then cln none (f s) else .no := Eq.mpr rfl rfl
theorem hK_s {sub : Nat → Nat → Option Bool} {x : Xn} {f : Sx → Rs} {hs : List Hd} : hK sub x (some i) f hs (some true) s = if noX s = true then cln (some i) (f (s.set i (.x x))) else .no := Eq.mpr rfl rfl
theorem clnN_nx : cln none (.nx s) = if noX s = true then .nx s else .no := Eq.mpr rfl rfl
theorem clnS_nx : cln (some i) (.nx s) = if noX (s.set i .no) = true then .nx (s.set i .no) else .no := Eq.mpr rfl rfl
theorem clnN_bk : cln none (.bk s) = if noX s = true then .bk s else .no := Eq.mpr rfl rfl
theorem clnS_bk : cln (some i) (.bk s) = if noX (s.set i .no) = true then .bk (s.set i .no) else .no := Eq.mpr rfl rfl
theorem clnN_ct : cln none (.ct s) = if noX s = true then .ct s else .no := Eq.mpr rfl rfl
theorem clnS_ct : cln (some i) (.ct s) = if noX (s.set i .no) = true then .ct (s.set i .no) else .no := Eq.mpr rfl rfl
theorem clnN_rt {x : Sl} : cln none (.rt x s) = if (noXl x && noX s) = true then .rt x s else .no := Eq.mpr rfl rfl
theorem clnS_rt {x : Sl} : cln (some i) (.rt x s) = if (noXl x && noX (s.set i .no)) = true then .rt x (s.set i .no) else .no := Eq.mpr rfl rfl
theorem noX_nil : noX [] = true := Eq.mpr rfl rfl
theorem noX_cons {x : Sl} : noX (x :: s) = (noXl x && noX s) := Eq.mpr rfl rfl
theorem noXl_217 : noXl .no = true := Eq.mpr rfl rfl
theorem noXl_218 : noXl (.v d) = true := Eq.mpr rfl rfl
theorem noXl_219 : noXl (.o t c) = true := Eq.mpr rfl rfl
theorem tgN_r : tgN i d s = some (s.set i (.v d)) := Eq.mpr rfl rfl
theorem tgP_r {j : Nat} {x y : D} : tgP i j (.tup [x, y]) s = some ((s.set i (.v x)).set j (.v y)) := Eq.mpr rfl rfl
theorem runP_r {k : Nat} {b' : Sx → Rs} : runP k b' ds = rpK (b' (ds.map .v ++ List.replicate (k - ds.length) .no)) := Eq.mpr rfl rfl
theorem rpK_n : rpK (.nx s) = .ok (.v .non) := Eq.mpr rfl rfl
theorem rpK_v : rpK (.rt (.v d) s) = .ok (.v d) := Eq.mpr rfl rfl
theorem rpK_o : rpK (.rt (.o t c) s) = .ok (.o 0 c) := Eq.mpr rfl rfl
theorem rpK_x {x : Xn} : rpK (.ex x s) = .ex x := Eq.mpr rfl rfl
theorem runM_r {k : Nat} {b' : Sx → Rs} : runM k b' c ds = rmR (b' (.o 1 c :: (ds.map .v ++ List.replicate (k - (ds.length + 1)) .no))) := Eq.mpr rfl rfl
theorem rmR_n {c' : Cell} : rmR (.nx (.o 1 c' :: s)) = .ok (.v .non) c' := Eq.mpr rfl rfl
theorem rmR_v {c' : Cell} : rmR (.rt (.v d) (.o 1 c' :: s)) = .ok (.v d) c' := Eq.mpr rfl rfl
theorem rmR_o {c' : Cell} : rmR (.rt (.o t c) (.o 1 c' :: s)) = .ok (.o 0 c) c' := Eq.mpr rfl rfl
theorem rmR_x {x : Xn} {c' : Cell} : rmR (.ex x (.o 1 c' :: s)) = .ex x c' := Eq.mpr rfl rfl
theorem pAdd_232 {m : Int} : pAdd [.int n, .int m] = some (.v (.int (n + m))) := Eq.mpr rfl rfl
theorem pSub_233 {m : Int} : pSub [.int n, .int m] = some (.v (.int (n - m))) := Eq.mpr rfl rfl
theorem pIadd_234 {m : Int} : pIadd [.int n, .int m] = some (.v (.int (n + m))) := Eq.mpr rfl rfl
theorem pIsub_235 {m : Int} : pIsub [.int n, .int m] = some (.v (.int (n - m))) := Eq.mpr rfl rfl
theorem pAdd_236 {y : PySem.Str} : pAdd [.str z, .str y] = if z.length + y.length ≤ PySem.sizeLine then some (.v (.str (z ++ y))) else none := Eq.mpr rfl rfl
theorem pAdd_237 {es : List D} : pAdd [.lst ds, .lst es] = if ds.length + es.length ≤ PySem.sizeLine then some (.o 0 (.lst (ds ++ es))) else none := Eq.mpr rfl rfl
theorem pAdd_238 {es : List D} : pAdd [.tup ds, .tup es] = if ds.length + es.length ≤ PySem.sizeLine then some (.v (.tup (ds ++ es))) else none := Eq.mpr rfl rfl
theorem pMul_239 {m : Int} : pMul [.int n, .int m] = if (-18446744073709551616 < n ∧ n < 18446744073709551616) ∨ (-18446744073709551616 < m ∧ m < 18446744073709551616) then some (.v (.int (n * m))) else none := Eq.mpr rfl rfl
theorem pMul_240 {m : Int} : pMul [.lst ds, .int m] = if -9223372036854775808 ≤ m ∧ m < 9223372036854775808 ∧ ds.length * m.toNat ≤ PySem.sizeLine then some (.o 0 (.lst (List.replicate m.toNat ds).flatten)) else none := Eq.mpr rfl rfl
theorem pFdiv_241 {m : Int} : pFdiv [.int n, .int m] = if 0 < m ∧ m < 4611686018427387904 then some (.v (.int (n / m))) else none := Eq.mpr rfl rfl
theorem pMod_242 {m : Int} : pMod [.int n, .int m] = if 0 < m then some (.v (.int (n % m))) else none := Eq.mpr rfl rfl
theorem pPow_243 {m : Int} : pPow [.int n, .int m] = if 0 ≤ m ∧ m ≤ 1000000 ∧ n.natAbs < 18446744073709551616 then some (.v (.int (n ^ m.toNat))) else none := Eq.mpr rfl rfl
theorem pShl_244 {m : Int} : pShl [.int n, .int m] = if 0 ≤ m ∧ m ≤ 1000000 ∧ n.natAbs < 18446744073709551616 then some (.v (.int (n * 2 ^ m.toNat))) else none := Eq.mpr rfl rfl
theorem pShr_245 {m : Int} : pShr [.int n, .int m] = if 0 ≤ m then some (.v (.int (n / 2 ^ m.toNat))) else none := Eq.mpr rfl rfl
theorem pBand_246  : pBand [.int n, .int 1] = if 0 ≤ n then some (.v (.int (n % 2))) else none := Eq.mpr rfl rfl
theorem pNeg_247  : pNeg [.int n] = some (.v (.int (-n))) := Eq.mpr rfl rfl
theorem pLt_248 {m : Int} : pLt [.int n, .int m] = some (.v (.bl (decide (n < m)))) := Eq.mpr rfl rfl
theorem pLe_249 {m : Int} : pLe [.int n, .int m] = some (.v (.bl (decide (n ≤ m)))) := Eq.mpr rfl rfl
theorem pGt_250 {m : Int} : pGt [.int n, .int m] = some (.v (.bl (decide (m < n)))) := Eq.mpr rfl rfl
theorem pGe_251 {m : Int} : pGe [.int n, .int m] = some (.v (.bl (decide (m ≤ n)))) := Eq.mpr rfl rfl
theorem pEq_252 {m : Int} : pEq [.int n, .int m] = some (.v (.bl (decide (n = m)))) := Eq.mpr rfl rfl
theorem pEq_253 {y : PySem.Str} : pEq [.str z, .str y] = some (.v (.bl (decide (z = y)))) := Eq.mpr rfl rfl
theorem pEq_254 {x : Bool} : pEq [.bl b, .bl x] = some (.v (.bl (decide (b = x)))) := Eq.mpr rfl rfl
theorem pEq_255  : pEq [.int n, .str z] = some (.v (.bl false)) := Eq.mpr rfl rfl
theorem pEq_256  : pEq [.str z, .int n] = some (.v (.bl false)) := Eq.mpr rfl rfl
theorem pEq_257  : pEq [.non, .int n] = some (.v (.bl false)) := Eq.mpr rfl rfl
theorem pEq_258  : pEq [.int n, .non] = some (.v (.bl false)) := Eq.mpr rfl rfl
theorem pEq_259  : pEq [.non, .str z] = some (.v (.bl false)) := Eq.mpr rfl rfl
theorem pEq_260  : pEq [.str z, .non] = some (.v (.bl false)) := Eq.mpr rfl rfl
theorem pEq_261 {es : List D} : pEq [.lst ds, .lst es] = if (okB 64 (.lst ds) && okB 64 (.lst es)) = true then some (.v (.bl (eqDs ds es))) else none := by
  show ((if (okB 64 (.lst ds) && okB 64 (.lst es)) = true then some (eqD (.lst ds) (.lst es)) else none).map _) = _
  split <;> rfl
theorem pEq_262 {es : List D} : pEq [.tup ds, .tup es] = if (okB 64 (.tup ds) && okB 64 (.tup es)) = true then some (.v (.bl (eqDs ds es))) else none := by
  show ((if (okB 64 (.tup ds) && okB 64 (.tup es)) = true then some (eqD (.tup ds) (.tup es)) else none).map _) = _
  split <;> rfl
theorem pNe_263 {m : Int} : pNe [.int n, .int m] = some (.v (.bl (!(decide (n = m))))) := Eq.mpr rfl rfl
theorem pNe_264 {y : PySem.Str} : pNe [.str z, .str y] = some (.v (.bl (!(decide (z = y))))) := Eq.mpr rfl rfl
theorem pNe_265 {x : Bool} : pNe [.bl b, .bl x] = some (.v (.bl (!(decide (b = x))))) := Eq.mpr rfl rfl
theorem pNe_266  : pNe [.int n, .str z] = some (.v (.bl true)) := Eq.mpr rfl rfl
theorem pNe_267  : pNe [.str z, .int n] = some (.v (.bl true)) := Eq.mpr rfl rfl
theorem pNe_268  : pNe [.non, .int n] = some (.v (.bl true)) := Eq.mpr rfl rfl
theorem pNe_269  : pNe [.int n, .non] = some (.v (.bl true)) := Eq.mpr rfl rfl
theorem pNe_270  : pNe [.non, .str z] = some (.v (.bl true)) := Eq.mpr rfl rfl
theorem pNe_271  : pNe [.str z, .non] = some (.v (.bl true)) := Eq.mpr rfl rfl
theorem pNe_272 {es : List D} : pNe [.lst ds, .lst es] = if (okB 64 (.lst ds) && okB 64 (.lst es)) = true then some (.v (.bl (!(eqDs ds es)))) else none := by
  show ((if (okB 64 (.lst ds) && okB 64 (.lst es)) = true then some (eqD (.lst ds) (.lst es)) else none).map _) = _
  split <;> rfl
theorem pNe_273 {es : List D} : pNe [.tup ds, .tup es] = if (okB 64 (.tup ds) && okB 64 (.tup es)) = true then some (.v (.bl (!(eqDs ds es)))) else none := by
  show ((if (okB 64 (.tup ds) && okB 64 (.tup es)) = true then some (eqD (.tup ds) (.tup es)) else none).map _) = _
  split <;> rfl
theorem pIs_274 {x : Bool} : pIs [.bl b, .bl x] = some (.v (.bl (decide (b = x)))) := Eq.mpr rfl rfl
theorem pIs_275  : pIs [.non, .non] = some (.v (.bl true)) := Eq.mpr rfl rfl
theorem pIs_276  : pIs [.int n, .non] = some (.v (.bl false)) := Eq.mpr rfl rfl
theorem pIs_277  : pIs [.str z, .non] = some (.v (.bl false)) := Eq.mpr rfl rfl
theorem pIs_278  : pIs [.bl b, .non] = some (.v (.bl false)) := Eq.mpr rfl rfl
theorem pIs_279  : pIs [.lst ds, .non] = some (.v (.bl false)) := Eq.mpr rfl rfl
theorem pIs_280  : pIs [.tup ds, .non] = some (.v (.bl false)) := Eq.mpr rfl rfl
theorem pIs_281  : pIs [.obj C os ds, .non] = some (.v (.bl false)) := Eq.mpr rfl rfl
theorem pIs_282  : pIs [.dic ks ds, .non] = some (.v (.bl false)) := Eq.mpr rfl rfl
theorem pIsnot_283 {x : Bool} : pIsnot [.bl b, .bl x] = some (.v (.bl (!(decide (b = x))))) := Eq.mpr rfl rfl
theorem pIsnot_284  : pIsnot [.non, .non] = some (.v (.bl false)) := Eq.mpr rfl rfl
theorem pIsnot_285  : pIsnot [.int n, .non] = some (.v (.bl true)) := Eq.mpr rfl rfl
theorem pIsnot_286  : pIsnot [.str z, .non] = some (.v (.bl true)) := Eq.mpr rfl rfl
theorem pIsnot_287  : pIsnot [.bl b, .non] = some (.v (.bl true)) := Eq.mpr rfl rfl
theorem pIsnot_288  : pIsnot [.lst ds, .non] = some (.v (.bl true)) := Eq.mpr rfl rfl
theorem pIsnot_289  : pIsnot [.tup ds, .non] = some (.v (.bl true)) := Eq.mpr rfl rfl
theorem pIsnot_290  : pIsnot [.obj C os ds, .non] = some (.v (.bl true)) := Eq.mpr rfl rfl
theorem pIsnot_291  : pIsnot [.dic ks ds, .non] = some (.v (.bl true)) := Eq.mpr rfl rfl
theorem pIn_292  : pIn [d, .lst ds] = if flat1 d = true ∧ ds.all flat1 = true then some (.v (.bl (inD d ds))) else none := Eq.mpr rfl rfl
theorem pIn_293  : pIn [d, .tup ds] = if flat1 d = true ∧ ds.all flat1 = true then some (.v (.bl (inD d ds))) else none := Eq.mpr rfl rfl
theorem pNin_294  : pNin [d, .lst ds] = if flat1 d = true ∧ ds.all flat1 = true then some (.v (.bl (!(inD d ds)))) else none := Eq.mpr rfl rfl
theorem pNin_295  : pNin [d, .tup ds] = if flat1 d = true ∧ ds.all flat1 = true then some (.v (.bl (!(inD d ds)))) else none := Eq.mpr rfl rfl
theorem pLen_296  : pLen [.lst ds] = some (.v (.int ds.length)) := Eq.mpr rfl rfl
theorem pLen_297  : pLen [.klst ds] = some (.v (.int ds.length)) := Eq.mpr rfl rfl
theorem pLen_298  : pLen [.tup ds] = some (.v (.int ds.length)) := Eq.mpr rfl rfl
theorem pLen_299  : pLen [.str z] = if z.length ≤ PySem.sizeLine then some (.v (.int z.length)) else none := Eq.mpr rfl rfl
theorem pInt_300  : pInt [.int n] = some (.v (.int n)) := Eq.mpr rfl rfl
theorem pInt_301  : pInt [.bl b] = some (.v (.int (if b then 1 else 0))) := Eq.mpr rfl rfl
theorem pAbs_302  : pAbs [.int n] = some (.v (.int (if n < 0 then -n else n))) := Eq.mpr rfl rfl
theorem pMin_303 {m : Int} : pMin [.int n, .int m] = some (.v (.int (if m < n then m else n))) := Eq.mpr rfl rfl
theorem pMax_304 {m : Int} : pMax [.int n, .int m] = some (.v (.int (if m > n then m else n))) := Eq.mpr rfl rfl
theorem pList_305  : pList [.lst ds] = some (.o 0 (.lst ds)) := Eq.mpr rfl rfl
theorem pTuple_306  : pTuple [.lst ds] = some (.v (.tup ds)) := Eq.mpr rfl rfl
theorem pList_307  : pList [.tup ds] = some (.o 0 (.lst ds)) := Eq.mpr rfl rfl
theorem pTuple_308  : pTuple [.tup ds] = some (.v (.tup ds)) := Eq.mpr rfl rfl
theorem pTup_309  : pTup ds = if ds.length ≤ PySem.sizeLine then some (.v (.tup ds)) else none := Eq.mpr rfl rfl
theorem pLst_310  : pLst ds = if ds.length ≤ PySem.sizeLine then some (.o 0 (.lst ds)) else none := Eq.mpr rfl rfl
theorem pIsi_311  : pIsi [.non, .raw (.ty "int")] = some (.v (.bl false)) := Eq.mpr rfl rfl
theorem pIsi_312  : pIsi [.non, .raw (.ty "bool")] = some (.v (.bl false)) := Eq.mpr rfl rfl
theorem pIsi_313  : pIsi [.non, .raw (.ty "str")] = some (.v (.bl false)) := Eq.mpr rfl rfl
theorem pIsi_314  : pIsi [.non, .raw (.ty "list")] = some (.v (.bl false)) := Eq.mpr rfl rfl
theorem pIsi_315  : pIsi [.non, .raw (.ty "tuple")] = some (.v (.bl false)) := Eq.mpr rfl rfl
theorem pIsi_316  : pIsi [.non, .tup [.raw (.ty "list"), .raw (.ty "tuple")]] = some (.v (.bl false)) := Eq.mpr rfl rfl
theorem pIsi_317  : pIsi [.int n, .raw (.ty "int")] = some (.v (.bl true)) := Eq.mpr rfl rfl
theorem pIsi_318  : pIsi [.int n, .raw (.ty "bool")] = some (.v (.bl false)) := Eq.mpr rfl rfl
theorem pIsi_319  : pIsi [.int n, .raw (.ty "str")] = some (.v (.bl false)) := Eq.mpr rfl rfl
theorem pIsi_320  : pIsi [.int n, .raw (.ty "list")] = some (.v (.bl false)) := Eq.mpr rfl rfl
theorem pIsi_321  : pIsi [.int n, .raw (.ty "tuple")] = some (.v (.bl false)) := Eq.mpr rfl rfl
theorem pIsi_322  : pIsi [.int n, .tup [.raw (.ty "list"), .raw (.ty "tuple")]] = some (.v (.bl false)) := Eq.mpr rfl rfl
theorem pIsi_323  : pIsi [.bl b, .raw (.ty "int")] = some (.v (.bl true)) := Eq.mpr rfl rfl
theorem pIsi_324  : pIsi [.bl b, .raw (.ty "bool")] = some (.v (.bl true)) := Eq.mpr rfl rfl
theorem pIsi_325  : pIsi [.bl b, .raw (.ty "str")] = some (.v (.bl false)) := Eq.mpr rfl rfl
theorem pIsi_326  : pIsi [.bl b, .raw (.ty "list")] = some (.v (.bl false)) := Eq.mpr rfl rfl
theorem pIsi_327  : pIsi [.bl b, .raw (.ty "tuple")] = some (.v (.bl false)) := Eq.mpr rfl rfl
theorem pIsi_328  : pIsi [.bl b, .tup [.raw (.ty "list"), .raw (.ty "tuple")]] = some (.v (.bl false)) := Eq.mpr rfl rfl
theorem pIsi_329  : pIsi [.str z, .raw (.ty "int")] = some (.v (.bl false)) := Eq.mpr rfl rfl
theorem pIsi_330  : pIsi [.str z, .raw (.ty "bool")] = some (.v (.bl false)) := Eq.mpr rfl rfl
theorem pIsi_331  : pIsi [.str z, .raw (.ty "str")] = some (.v (.bl true)) := Eq.mpr rfl rfl
theorem pIsi_332  : pIsi [.str z, .raw (.ty "list")] = some (.v (.bl false)) := Eq.mpr rfl rfl
theorem pIsi_333  : pIsi [.str z, .raw (.ty "tuple")] = some (.v (.bl false)) := Eq.mpr rfl rfl
theorem pIsi_334  : pIsi [.str z, .tup [.raw (.ty "list"), .raw (.ty "tuple")]] = some (.v (.bl false)) := Eq.mpr rfl rfl
theorem pIsi_335  : pIsi [.lst ds, .raw (.ty "int")] = some (.v (.bl false)) := Eq.mpr rfl rfl
theorem pIsi_336  : pIsi [.lst ds, .raw (.ty "bool")] = some (.v (.bl false)) := Eq.mpr rfl rfl
theorem pIsi_337  : pIsi [.lst ds, .raw (.ty "str")] = some (.v (.bl false)) := Eq.mpr rfl rfl
theorem pIsi_338  : pIsi [.lst ds, .raw (.ty "list")] = some (.v (.bl true)) := Eq.mpr rfl rfl
theorem pIsi_339  : pIsi [.lst ds, .raw (.ty "tuple")] = some (.v (.bl false)) := Eq.mpr rfl rfl
theorem pIsi_340  : pIsi [.lst ds, .tup [.raw (.ty "list"), .raw (.ty "tuple")]] = some (.v (.bl true)) := Eq.mpr rfl rfl
theorem pIsi_341  : pIsi [.tup ds, .raw (.ty "int")] = some (.v (.bl false)) := Eq.mpr rfl rfl
theorem pIsi_342  : pIsi [.tup ds, .raw (.ty "bool")] = some (.v (.bl false)) := Eq.mpr rfl rfl
theorem pIsi_343  : pIsi [.tup ds, .raw (.ty "str")] = some (.v (.bl false)) := Eq.mpr rfl rfl
theorem pIsi_344  : pIsi [.tup ds, .raw (.ty "list")] = some (.v (.bl false)) := Eq.mpr rfl rfl
theorem pIsi_345  : pIsi [.tup ds, .raw (.ty "tuple")] = some (.v (.bl true)) := Eq.mpr rfl rfl
theorem pIsi_346  : pIsi [.tup ds, .tup [.raw (.ty "list"), .raw (.ty "tuple")]] = some (.v (.bl true)) := Eq.mpr rfl rfl
theorem mpV_r : mpV (some d) = some (.v d) := Eq.mpr rfl rfl
theorem pIx_lst : pIx [.lst ds, .int n] = mpV (L2.atI ds n) := by
  show (L2.atI ds n).map _ = _
  cases L2.atI ds n <;> rfl
theorem pIx_tup : pIx [.tup ds, .int n] = mpV (L2.atI ds n) := by
  show (L2.atI ds n).map _ = _
  cases L2.atI ds n <;> rfl
theorem pSlTo_350  : pSlTo [.lst ds, .int n] = some (.o 0 (.lst (cutD ds none (some n)))) := Eq.mpr rfl rfl
theorem pSlFr_351  : pSlFr [.lst ds, .int n] = some (.o 0 (.lst (cutD ds (some n) none))) := Eq.mpr rfl rfl
theorem pSlBt_352 {m : Int} : pSlBt [.lst ds, .int n, .int m] = some (.o 0 (.lst (cutD ds (some n) (some m)))) := Eq.mpr rfl rfl
theorem pSlTo_353  : pSlTo [.tup ds, .int n] = some (.v (.tup (cutD ds none (some n)))) := Eq.mpr rfl rfl
theorem pSlFr_354  : pSlFr [.tup ds, .int n] = some (.v (.tup (cutD ds (some n) none))) := Eq.mpr rfl rfl
theorem pSlBt_355 {m : Int} : pSlBt [.tup ds, .int n, .int m] = some (.v (.tup (cutD ds (some n) (some m)))) := Eq.mpr rfl rfl
theorem pSlAl_356  : pSlAl [.lst ds] = some (.o 0 (.lst ds)) := Eq.mpr rfl rfl
theorem pBits_357  : pBits [.int n] = some (.v (.int (PySem.Builtin.Int.intBits n : Nat))) := Eq.mpr rfl rfl
theorem truD_358  : truD (.non) = some false := Eq.mpr rfl rfl
theorem truD_359  : truD (.bl b) = some b := Eq.mpr rfl rfl
theorem truD_360  : truD (.int n) = some (n != 0) := Eq.mpr rfl rfl
theorem truD_361  : truD (.lst ds) = some (!ds.isEmpty) := Eq.mpr rfl rfl
theorem truD_362  : truD (.tup ds) = some (!ds.isEmpty) := Eq.mpr rfl rfl
theorem truD_363  : truD (.str z) = if z.length ≤ PySem.sizeLine then some ((z.length : Int) != 0) else none := Eq.mpr rfl rfl
theorem rg3F_r {a' : Sx → Re (List Ag)} : rg3F a' s = (a' s).bind rg3K := Eq.mpr rfl rfl
theorem rg3K_r {m k : Int} : rg3K [.v (.int n), .v (.int m), .v (.int k)] s = rg3L n k (rg3N n m k) s := Eq.mpr rfl rfl
theorem rg3L_r {k : Int} {m : Nat} : rg3L n k (some m) s = .ok ((List.range m).map fun j : Nat => .int (n + (j : Int) * k)) s := Eq.mpr rfl rfl
theorem tgsN_r : tgsN [] s = some s := Eq.mpr rfl rfl
theorem tgsC_r {g : D → Sx → Option Sx} {r : List D → Sx → Option Sx} : tgsC g r (d :: ds) s = tgo r ds (g d s) := Eq.mpr rfl rfl
theorem tgo_r {r : List D → Sx → Option Sx} : tgo r ds (some s) = r ds s := Eq.mpr rfl rfl
theorem tgT_r {r : List D → Sx → Option Sx} : tgT r (.tup ds) s = r ds s := Eq.mpr rfl rfl
theorem asgT_r {g : D → Sx → Option Sx} {e : Sx → Re Sl} : asgT g e s = (e s).st (atK g) := Eq.mpr rfl rfl
theorem atK_v {g : D → Sx → Option Sx} : atK g (.v d) s = nxO (g d s) := Eq.mpr rfl rfl
theorem nxO_r : nxO (some s) = .nx s := Eq.mpr rfl rfl
theorem bmF_r {T : String} {p : List D → Option Sl} {o a' : Sx → Re (List Ag)} : bmF T p o a' s = (o s).bind (bmK T p a') := Eq.mpr rfl rfl
theorem bmK_r {T : String} {p : List D → Option Sl} {a' : Sx → Re (List Ag)} {a0 : Ag} : bmK T p a' [a0] s = bm1 T p a' a0 (look s [a0]) s := Eq.mpr rfl rfl
theorem bm1_r {T : String} {p : List D → Option Sl} {a' : Sx → Re (List Ag)} {a0 : Ag} : bm1 T p a' a0 (some ([d], b)) s = if tyQ d = some T then (a' s).bind (bmB p a0) else .no := Eq.mpr rfl rfl
theorem bmB_r {p : List D → Option Sl} {a0 : Ag} {bs : List Ag} : bmB p a0 bs s = kO p (a0 :: bs) s := Eq.mpr rfl rfl
theorem bm0F_r {T : String} {p : List D → Option Sl} {o : Sx → Re (List Ag)} : bm0F T p o s = (o s).bind (bm0K T p) := Eq.mpr rfl rfl
theorem bm0K_r {T : String} {p : List D → Option Sl} {a0 : Ag} : bm0K T p [a0] s = bm01 T p a0 (look s [a0]) s := Eq.mpr rfl rfl
theorem bm01_r {T : String} {p : List D → Option Sl} {a0 : Ag} : bm01 T p a0 (some ([d], b)) s = if tyQ d = some T then kO p [a0] s else .no := Eq.mpr rfl rfl
theorem tyQ_381 : tyQ (.str z) = some "str" := Eq.mpr rfl rfl
theorem tyQ_382 : tyQ (.int n) = some "int" := Eq.mpr rfl rfl
theorem tyQ_383 : tyQ (.lst ds) = some "list" := Eq.mpr rfl rfl
theorem tyQ_384 : tyQ (.klst ds) = some "list" := Eq.mpr rfl rfl
theorem tyQ_385 : tyQ (.dic ks ds) = some "dict" := Eq.mpr rfl rfl
theorem omF_r {T : String} {q : Cell → List D → Option (D × Cell)} {a' : Sx → Re (List Ag)} : omF T q i a' s = om1 T q i a' s[i]? s := Eq.mpr rfl rfl
theorem om1_r {T : String} {q : Cell → List D → Option (D × Cell)} {a' : Sx → Re (List Ag)} : om1 T q i a' (some (.o t c)) s = if tyCell c = T then (a' s).bind (omK q i) else .no := Eq.mpr rfl rfl
theorem omK_r {q : Cell → List D → Option (D × Cell)} {as : List Ag} : omK q i as s = om2 q i (allV as) s[i]? s := Eq.mpr rfl rfl
theorem om2_r {q : Cell → List D → Option (D × Cell)} : om2 q i (some ds) (some (.o t c)) s = om3 i t (q c ds) s := Eq.mpr rfl rfl
theorem om3_r : om3 i t (some (d, c)) s = .ok (.v d) (s.set i (.o t c)) := Eq.mpr rfl rfl
theorem om0F_r {T : String} {q : Cell → List D → Option (D × Cell)} : om0F T q i s = om01 T q i s[i]? s := by
  show (match s[i]? with | some (.o t c) => _ | _ => _ : Re Sl) = _
  unfold om01
  cases s[i]? with
  | none => rfl
  | some y => cases y <;> rfl
theorem om01_r {T : String} {q : Cell → List D → Option (D × Cell)} : om01 T q i (some (.o t c)) s = if tyCell c = T then om3 i t (q c []) s else .no := Eq.mpr rfl rfl
theorem tyCell_l : tyCell (.lst ds) = "list" := Eq.mpr rfl rfl
theorem tyCell_d : tyCell (.dic ks ds) = "dict" := Eq.mpr rfl rfl
theorem qGet_395 : qGet (.dic ks ds) [.int n] = some ((dgetD ks ds (.inl n)).getD .non, .dic ks ds) := Eq.mpr rfl rfl
theorem qGet_396 : qGet (.dic ks ds) [.int n, d] = some ((dgetD ks ds (.inl n)).getD d, .dic ks ds) := Eq.mpr rfl rfl
theorem pGet_397 : pGet [.dic ks ds, .int n] = some (.v ((dgetD ks ds (.inl n)).getD .non)) := Eq.mpr rfl rfl
theorem pGet_398 : pGet [.dic ks ds, .int n, d] = some (.v ((dgetD ks ds (.inl n)).getD d)) := Eq.mpr rfl rfl
theorem setC_399 : setC (.dic ks ds) (.int n) d = if ks.length < PySem.sizeLine then some (.dic (dputK ks (.inl n)) (dputV ks ds (.inl n) d)) else none := Eq.mpr rfl rfl
theorem atC_400 : atC (.dic ks ds) (.int n) = dgetD ks ds (.inl n) := Eq.mpr rfl rfl
theorem pIxC_401 : pIxC [.dic ks ds, .int n] = mpV (dgetD ks ds (.inl n)) := by
  show (dgetD ks ds _).map _ = _
  cases dgetD ks ds _ <;> rfl
theorem pInC_402 : pInC [.int n, .dic ks ds] = some (.v (.bl (dgetD ks ds (.inl n)).isSome)) := Eq.mpr rfl rfl
theorem pNinC_403 : pNinC [.int n, .dic ks ds] = some (.v (.bl (!(dgetD ks ds (.inl n)).isSome))) := Eq.mpr rfl rfl
theorem qGet_404 : qGet (.dic ks ds) [.str z] = some ((dgetD ks ds (.inr z)).getD .non, .dic ks ds) := Eq.mpr rfl rfl
theorem qGet_405 : qGet (.dic ks ds) [.str z, d] = some ((dgetD ks ds (.inr z)).getD d, .dic ks ds) := Eq.mpr rfl rfl
theorem pGet_406 : pGet [.dic ks ds, .str z] = some (.v ((dgetD ks ds (.inr z)).getD .non)) := Eq.mpr rfl rfl
theorem pGet_407 : pGet [.dic ks ds, .str z, d] = some (.v ((dgetD ks ds (.inr z)).getD d)) := Eq.mpr rfl rfl
theorem setC_408 : setC (.dic ks ds) (.str z) d = if ks.length < PySem.sizeLine then some (.dic (dputK ks (.inr z)) (dputV ks ds (.inr z) d)) else none := Eq.mpr rfl rfl
theorem atC_409 : atC (.dic ks ds) (.str z) = dgetD ks ds (.inr z) := Eq.mpr rfl rfl
theorem pIxC_410 : pIxC [.dic ks ds, .str z] = mpV (dgetD ks ds (.inr z)) := by
  show (dgetD ks ds _).map _ = _
  cases dgetD ks ds _ <;> rfl
theorem pInC_411 : pInC [.str z, .dic ks ds] = some (.v (.bl (dgetD ks ds (.inr z)).isSome)) := Eq.mpr rfl rfl
theorem pNinC_412 : pNinC [.str z, .dic ks ds] = some (.v (.bl (!(dgetD ks ds (.inr z)).isSome))) := Eq.mpr rfl rfl
theorem dicN_r : dicN s = .ok (.o 0 (.dic [] [])) s := Eq.mpr rfl rfl
theorem setC_l : setC (.lst ds) (.int n) d = setL ds d (L2.ixN ds.length n) := Eq.mpr rfl rfl
theorem setL_r {m : Nat} : setL ds d (some m) = some (.lst (ds.set m d)) := Eq.mpr rfl rfl
theorem stC_r {e : Sx → Re Sl} {ix : Sx → Re (List Ag)} : stC i e ix s = sc1 i e ix s[i]? s := Eq.mpr rfl rfl
theorem sc1_r {e : Sx → Re Sl} {ix : Sx → Re (List Ag)} : sc1 i e ix (some (.o t c)) s = (e s).st (sc1K i ix) := Eq.mpr rfl rfl
theorem sc1K_v {ix : Sx → Re (List Ag)} : sc1K i ix (.v d) s = sc2 i ix (some d) s[i]? s := Eq.mpr rfl rfl
theorem sc1K_l {ix : Sx → Re (List Ag)} : sc1K i ix (.o t (.lst ds)) s = sc2 i ix (some (.lst ds)) s[i]? s := Eq.mpr rfl rfl
theorem sc2_r {ix : Sx → Re (List Ag)} : sc2 i ix (some d) (some (.o t c)) s = (ix s).st (sc2K i d) := Eq.mpr rfl rfl
theorem sc2K_r {as : List Ag} : sc2K i d as s = sc3 i d as s[i]? s := Eq.mpr rfl rfl
theorem sc3_r {x : D} : sc3 i d [.v x] (some (.o t c)) s = sc4 i t (setC c x d) s := Eq.mpr rfl rfl
theorem sc4_r : sc4 i t (some c) s = .nx (s.set i (.o t c)) := Eq.mpr rfl rfl
theorem ixC_r {g : Sx → Re (List Ag)} {f : Sx → Re Sl} : ixC i g f s = ixC1 i g f s[i]? s := Eq.mpr rfl rfl
theorem ixC1_l {g : Sx → Re (List Ag)} {f : Sx → Re Sl} : ixC1 i g f (some (.o t c)) s = (g s).bind (ixCK i) := Eq.mpr rfl rfl
theorem ixC1_v {g : Sx → Re (List Ag)} {f : Sx → Re Sl} : ixC1 i g f (some (.v d)) s = f s := Eq.mpr rfl rfl
theorem ixCK_r {as : List Ag} : ixCK i as s = ixC2 as s[i]? s := Eq.mpr rfl rfl
theorem ixC2_r {x : D} : ixC2 [.v x] (some (.o t c)) s = oD (atC c x) s := Eq.mpr rfl rfl
theorem atC_l : atC (.lst ds) (.int n) = L2.atI ds n := Eq.mpr rfl rfl
theorem pIxC_430  : pIxC [.lst ds, .int n] = mpV (L2.atI ds n) := by
  show (L2.atI ds n).map _ = _
  cases L2.atI ds n <;> rfl
theorem pInC_431  : pInC [d, .lst ds] = pIn [d, .lst ds] := Eq.mpr rfl rfl
theorem pNinC_432  : pNinC [d, .lst ds] = pNin [d, .lst ds] := Eq.mpr rfl rfl
theorem pIxC_433  : pIxC [.tup ds, .int n] = mpV (L2.atI ds n) := by
  show (L2.atI ds n).map _ = _
  cases L2.atI ds n <;> rfl
theorem pInC_434  : pInC [d, .tup ds] = pIn [d, .tup ds] := Eq.mpr rfl rfl
theorem pNinC_435  : pNinC [d, .tup ds] = pNin [d, .tup ds] := Eq.mpr rfl rfl
theorem pInC_436 {y : PySem.Str} : pInC [.str z, .str y] = pIn [.str z, .str y] := Eq.mpr rfl rfl
theorem pLenC_437  : pLenC [.lst ds] = pLen [.lst ds] := Eq.mpr rfl rfl
theorem pLenC_438  : pLenC [.klst ds] = pLen [.klst ds] := Eq.mpr rfl rfl
theorem pLenC_439  : pLenC [.tup ds] = pLen [.tup ds] := Eq.mpr rfl rfl
theorem pLenC_440  : pLenC [.str z] = pLen [.str z] := Eq.mpr rfl rfl
theorem pLenC_441  : pLenC [.dic ks ds] = some (.v (.int ks.length)) := Eq.mpr rfl rfl
theorem pRev_442  : pRev [.lst ds] = some (.o 0 (.lst ds.reverse)) := Eq.mpr rfl rfl
theorem mpI_r {m : Nat} : mpI (some m) = some (.v (.int (m : Nat))) := Eq.mpr rfl rfl
theorem pIdx_444  : pIdx [.lst ds, d] = if flat1 d = true ∧ ds.all flat1 = true then mpI (ds.findIdx? fun y => eqD y d) else none := by
  show (if _ then (ds.findIdx? fun y => eqD y d).map _ else none) = _
  cases ds.findIdx? fun y => eqD y d <;> rfl
theorem itW_r {e : Sx → Re Sl} : itW e s = (e s).bind itWK := Eq.mpr rfl rfl
theorem itWK_l : itWK (.v (.lst ds)) s = .ok ds s := Eq.mpr rfl rfl
theorem itWK_t : itWK (.v (.tup ds)) s = .ok ds s := Eq.mpr rfl rfl
theorem itWK_o : itWK (.o t (.lst ds)) s = .ok ds s := Eq.mpr rfl rfl
theorem pSlToS_449  : pSlToS [.lst ds, .int n] = some (.o 0 (.lst (cutD ds none (some n)))) := Eq.mpr rfl rfl
theorem pSlFrS_450  : pSlFrS [.lst ds, .int n] = some (.o 0 (.lst (cutD ds (some n) none))) := Eq.mpr rfl rfl
theorem pSlBtS_451 {m : Int} : pSlBtS [.lst ds, .int n, .int m] = some (.o 0 (.lst (cutD ds (some n) (some m)))) := Eq.mpr rfl rfl
theorem pSlToS_452  : pSlToS [.tup ds, .int n] = some (.v (.tup (cutD ds none (some n)))) := Eq.mpr rfl rfl
theorem pSlFrS_453  : pSlFrS [.tup ds, .int n] = some (.v (.tup (cutD ds (some n) none))) := Eq.mpr rfl rfl
theorem pSlBtS_454 {m : Int} : pSlBtS [.tup ds, .int n, .int m] = some (.v (.tup (cutD ds (some n) (some m)))) := Eq.mpr rfl rfl
theorem pSlToS_455  : pSlToS [.str z, .int n] = if z.length ≤ PySem.sizeLine then some (.v (.str (L2.cutS z none (some n)))) else none := Eq.mpr rfl rfl
theorem pSlFrS_456  : pSlFrS [.str z, .int n] = if z.length ≤ PySem.sizeLine then some (.v (.str (L2.cutS z (some n) none))) else none := Eq.mpr rfl rfl
theorem pSlBtS_457 {m : Int} : pSlBtS [.str z, .int n, .int m] = if z.length ≤ PySem.sizeLine then some (.v (.str (L2.cutS z (some n) (some m)))) else none := Eq.mpr rfl rfl
theorem pMulS_458 {m : Int} : pMulS [.int n, .int m] = pMul [.int n, .int m] := Eq.mpr rfl rfl
theorem pMulS_459  : pMulS [.lst ds, .int n] = pMul [.lst ds, .int n] := Eq.mpr rfl rfl
theorem pMulS_460  : pMulS [.str z, .int n] = if -9223372036854775808 ≤ n ∧ n < 9223372036854775808 ∧ z.length * n.toNat ≤ PySem.sizeLine ∧ z.length ≤ PySem.sizeLine then some (.v (.str (repS z n.toNat))) else none := Eq.mpr rfl rfl
theorem pNinS_461  : pNinS [d, .lst ds] = pNinC [d, .lst ds] := by
  cases d <;> rfl
theorem pNinS_462  : pNinS [d, .tup ds] = pNinC [d, .tup ds] := by
  cases d <;> rfl
theorem pNinS_463  : pNinS [d, .dic ks ds] = pNinC [d, .dic ks ds] := by
  cases d <;> rfl
theorem pNinS_464 {k : Nat} {y : PySem.Str} : pNinS [.str ⟨#[k]⟩, .str y] = some (.v (.bl (!decide (k ∈ y.cps.toList)))) := Eq.mpr rfl rfl
theorem pIn_465 {k : Nat} {y : PySem.Str} : pIn [.str ⟨#[k]⟩, .str y] = some (.v (.bl (decide (k ∈ y.cps.toList)))) := Eq.mpr rfl rfl
theorem pSidx_466 {k : Nat} : pSidx [.str z, .str ⟨#[k]⟩] = mpI (z.cps.toList.findIdx? fun y => y == k) := by
  show (z.cps.toList.findIdx? fun y => y == k).map _ = _
  cases z.cps.toList.findIdx? fun y => y == k <;> rfl
theorem pRstr_467 {y : PySem.Str} : pRstr [.str z, .str y] = if z.length ≤ PySem.sizeLine then some (.v (.str (PySem.Txt.rstripChars z y))) else none := Eq.mpr rfl rfl
theorem pHex_468  : pHex [.int n] = if 0 ≤ n ∧ n < 65536 then some (.v (.str (PySem.hexS n.toNat))) else none := Eq.mpr rfl rfl
theorem pJoin_469 {ns : List PySem.Str} : pJoin [.str z, .lst (ns.map .str)] = if (ns.map (·.length)).sum + ns.length * z.length ≤ 16777216 then some (.v (.str (PySem.Txt.join z ns))) else none := by
  unfold pJoin
  dsimp only
  rw [asStrs_map]
theorem pStr_470  : pStr [.int n] = if n.natAbs.log2 < 1920 then some (.v (.str (toString n))) else none := Eq.mpr rfl rfl
theorem mpC_r {m : Nat} : mpC (some m) = some (.v (.str ⟨#[m]⟩)) := Eq.mpr rfl rfl
theorem pIxC_472  : pIxC [.str z, .int n] = if z.length ≤ PySem.sizeLine then mpC (L2.atI z.cps.toList n) else none := by
  show (if _ then (L2.atI z.cps.toList n).map _ else none) = _
  cases L2.atI z.cps.toList n <;> rfl
theorem fldD_n1 {f : PySem.Str} : fldD f [] ds = none := Eq.mpr rfl rfl
theorem fldD_c {f g : PySem.Str} {gs : List PySem.Str} : fldD f (g :: gs) (d :: ds) = if f = g then some d else fldD f gs ds := Eq.mpr rfl rfl
theorem putK_n {f : PySem.Str} : putK f [] = [f] := Eq.mpr rfl rfl
theorem putK_c {f g : PySem.Str} {gs : List PySem.Str} : putK f (g :: gs) = if g = f then g :: gs else g :: putK f gs := Eq.mpr rfl rfl
theorem putDs_n {f : PySem.Str} : putDs f d [] ds = [d] := Eq.mpr rfl rfl
theorem putDs_c {f g : PySem.Str} {gs : List PySem.Str} {e : D} : putDs f d (g :: gs) (e :: ds) = if g = f then d :: ds else e :: putDs f d gs ds := Eq.mpr rfl rfl
theorem pFld_r [CA] {k : Nat} {f : PySem.Str} : pFld k f [(.obj (CA.at_ k) os ds)] = (fldD f os ds).map .v := if_pos rfl
theorem fldS_r [CA] {k : Nat} {f : PySem.Str} : fldS k f i s = fld1 k f s[i]? s := by
  unfold fldS fld1
  cases s[i]? with
  | none => rfl
  | some y =>
    cases y with
    | o t c =>
      cases c with
      | obj C ks ds => rfl
      | _ => rfl
    | _ => rfl
theorem fld1_r [CA] {k : Nat} {f : PySem.Str} : fld1 k f (some (.o t (.obj (CA.at_ k) os ds))) s = oD (fldD f os ds) s := if_pos rfl
theorem stA_r [CA] {k : Nat} {f : PySem.Str} {e : Sx → Re Sl} : stA k f i e s = stA1 k f i e s[i]? s := by
  unfold stA stA1
  cases s[i]? with
  | none => rfl
  | some y =>
    cases y with
    | o t c =>
      dsimp only
      congr 1
    | _ => rfl
theorem stA1_r [CA] {k : Nat} {f : PySem.Str} {e : Sx → Re Sl} : stA1 k f i e (some (.o t c)) s = (e s).st (stA2 k f i) := Eq.mpr rfl rfl
theorem stA2_484 [CA] {k : Nat} {f : PySem.Str} : stA2 k f i (.v d) s = stA3 k f i (some d) s[i]? s := Eq.mpr rfl rfl
theorem stA2_485 [CA] {k : Nat} {f : PySem.Str} : stA2 k f i (.o t (.lst ds)) s = stA3 k f i (some (.lst ds)) s[i]? s := Eq.mpr rfl rfl
theorem stA2_486 [CA] {k : Nat} {f : PySem.Str} : stA2 k f i (.o t (.dic ks ds)) s = stA3 k f i (some (.dic ks ds)) s[i]? s := Eq.mpr rfl rfl
theorem stA2_487 [CA] {k : Nat} {f : PySem.Str} : stA2 k f i (.o t (.obj C os ds)) s = stA3 k f i (some (.obj C os ds)) s[i]? s := Eq.mpr rfl rfl
theorem stA3_r [CA] {k : Nat} {f : PySem.Str} : stA3 k f i (some d) (some (.o t (.obj (CA.at_ k) os ds))) s = if os.length < 1000 then .nx (s.set i (.o t (.obj (CA.at_ k) (putK f os) (putDs f d os ds)))) else .no := by
  show (if _ ∧ _ then _ else _ : Rs) = _
  by_cases h : os.length < 1000
  · rw [if_pos ⟨rfl, h⟩, if_pos h]
  · rw [if_neg (fun z => h z.2), if_neg h]
theorem mkF_r [CA] {k m : Nat} {F : Cell → List D → RcM} {a' : Sx → Re (List Ag)} : mkF k m F a' s = (a' s).bind (mkK k m F) := by
  unfold mkF
  congr 1
theorem mkK_r [CA] {k m : Nat} {F : Cell → List D → RcM} {as : List Ag} : mkK k m F as s = mkL k m F (allV as) s := Eq.mpr rfl rfl
theorem mkL_1 [CA] {k : Nat} {F : Cell → List D → RcM} {x0 : D} : mkL k 2 F (some [x0]) s = mkR k (F (.obj (CA.at_ k) [] []) [x0]) s := by
  simp [mkL]
theorem mkL_2 [CA] {k : Nat} {F : Cell → List D → RcM} {x0 x1 : D} : mkL k 3 F (some [x0, x1]) s = mkR k (F (.obj (CA.at_ k) [] []) [x0, x1]) s := by
  simp [mkL]
theorem mkL_3 [CA] {k : Nat} {F : Cell → List D → RcM} {x0 x1 x2 : D} : mkL k 4 F (some [x0, x1, x2]) s = mkR k (F (.obj (CA.at_ k) [] []) [x0, x1, x2]) s := by
  simp [mkL]
theorem mkL_4 [CA] {k : Nat} {F : Cell → List D → RcM} {x0 x1 x2 x3 : D} : mkL k 5 F (some [x0, x1, x2, x3]) s = mkR k (F (.obj (CA.at_ k) [] []) [x0, x1, x2, x3]) s := by
  simp [mkL]
theorem mkL_5 [CA] {k : Nat} {F : Cell → List D → RcM} {x0 x1 x2 x3 x4 : D} : mkL k 6 F (some [x0, x1, x2, x3, x4]) s = mkR k (F (.obj (CA.at_ k) [] []) [x0, x1, x2, x3, x4]) s := by
  simp [mkL]
theorem mkL_6 [CA] {k : Nat} {F : Cell → List D → RcM} {x0 x1 x2 x3 x4 x5 : D} : mkL k 7 F (some [x0, x1, x2, x3, x4, x5]) s = mkR k (F (.obj (CA.at_ k) [] []) [x0, x1, x2, x3, x4, x5]) s := by
  simp [mkL]
theorem mkL_7 [CA] {k : Nat} {F : Cell → List D → RcM} {x0 x1 x2 x3 x4 x5 x6 : D} : mkL k 8 F (some [x0, x1, x2, x3, x4, x5, x6]) s = mkR k (F (.obj (CA.at_ k) [] []) [x0, x1, x2, x3, x4, x5, x6]) s := by
  simp [mkL]
theorem mkL_8 [CA] {k : Nat} {F : Cell → List D → RcM} {x0 x1 x2 x3 x4 x5 x6 x7 : D} : mkL k 9 F (some [x0, x1, x2, x3, x4, x5, x6, x7]) s = mkR k (F (.obj (CA.at_ k) [] []) [x0, x1, x2, x3, x4, x5, x6, x7]) s := by
  simp [mkL]
theorem mkR_v [CA] {k : Nat} {c' : Cell} : mkR k (.ok (.v .non) c') s = .ok (.o 0 c') s := Eq.mpr rfl rfl
theorem mkR_x [CA] {k : Nat} {x : Xn} {c' : Cell} : mkR k (.ex x c') s = .ex x s := Eq.mpr rfl rfl
theorem meF_r [CA] {k : Nat} {f : PySem.Str} {m : Nat} {F : List D → Rc} {o' : Sx → Re Sl} {a' : Sx → Re (List Ag)} : meF k f m F o' a' s = (o' s).bind (me1 k f m F a') := by
  unfold meF
  congr 1
theorem me1_502 [CA] {k : Nat} {f : PySem.Str} {m : Nat} {F : List D → Rc} {a' : Sx → Re (List Ag)} (h : f ∉ os) : me1 k f m F a' (.v (.obj (CA.at_ k) os ds)) s = (a' s).bind (me3 m F (.obj (CA.at_ k) os ds)) := if_pos ⟨rfl, h⟩
theorem me1_503 [CA] {k : Nat} {f : PySem.Str} {m : Nat} {F : List D → Rc} {a' : Sx → Re (List Ag)} (h : f ∉ os) : me1 k f m F a' (.o t (.obj (CA.at_ k) os ds)) s = (a' s).bind (me3 m F (.obj (CA.at_ k) os ds)) := if_pos ⟨rfl, h⟩
theorem me3_r [CA] {m : Nat} {x : D} {F : List D → Rc} {as : List Ag} : me3 m F x as s = me4 m F x (look s as) s := Eq.mpr rfl rfl
theorem me4_1 [CA] {F : List D → Rc} {x x0 : D} {b : Bool} : me4 2 F x (some ([x0], b)) s = rcK (F [x, x0]) b s := by
  simp [me4]
theorem me4_2 [CA] {F : List D → Rc} {x x0 x1 : D} {b : Bool} : me4 3 F x (some ([x0, x1], b)) s = rcK (F [x, x0, x1]) b s := by
  simp [me4]
theorem me4_3 [CA] {F : List D → Rc} {x x0 x1 x2 : D} {b : Bool} : me4 4 F x (some ([x0, x1, x2], b)) s = rcK (F [x, x0, x1, x2]) b s := by
  simp [me4]
theorem me4_4 [CA] {F : List D → Rc} {x x0 x1 x2 x3 : D} {b : Bool} : me4 5 F x (some ([x0, x1, x2, x3], b)) s = rcK (F [x, x0, x1, x2, x3]) b s := by
  simp [me4]
theorem me4_5 [CA] {F : List D → Rc} {x x0 x1 x2 x3 x4 : D} {b : Bool} : me4 6 F x (some ([x0, x1, x2, x3, x4], b)) s = rcK (F [x, x0, x1, x2, x3, x4]) b s := by
  simp [me4]
theorem meF0_r [CA] {k : Nat} {f : PySem.Str} {F : List D → Rc} {o' : Sx → Re Sl} : meF0 k f F o' s = (o' s).bind (mz1 k f F) := by
  unfold meF0
  congr 1
theorem mz1_511 [CA] {k : Nat} {f : PySem.Str} {F : List D → Rc} (h : f ∉ os) : mz1 k f F (.v (.obj (CA.at_ k) os ds)) s = rcK (F [(.obj (CA.at_ k) os ds)]) false s := if_pos ⟨rfl, h⟩
theorem mz1_512 [CA] {k : Nat} {f : PySem.Str} {F : List D → Rc} (h : f ∉ os) : mz1 k f F (.o t (.obj (CA.at_ k) os ds)) s = rcK (F [(.obj (CA.at_ k) os ds)]) false s := if_pos ⟨rfl, h⟩
theorem pLenO_r [CA] {k : Nat} {F : List D → Rc} {p : List D → Option Sl} : pLenO k F p [(.obj (CA.at_ k) os ds)] = lnR (F [(.obj (CA.at_ k) os ds)]) := if_pos rfl
theorem lnR_r : lnR (.ok (.v (.int n))) = if 0 ≤ n ∧ n < 2 ^ 63 then some (.v (.int n)) else none := Eq.mpr rfl rfl
theorem pInO_r [CA] {k : Nat} {F : List D → Rc} {p : List D → Option Sl} : pInO k F p [d, (.obj (CA.at_ k) os ds)] = blR (F [(.obj (CA.at_ k) os ds), d]) := if_pos rfl
theorem pEqO_r [CA] {k : Nat} {os' : List PySem.Str} {ds' : List D} {F : List D → Rc} {p : List D → Option Sl} : pEqO k F p [(.obj (CA.at_ k) os ds), .obj (CA.at_ k) os' ds'] = blR (F [(.obj (CA.at_ k) os ds), .obj (CA.at_ k) os' ds']) := if_pos ⟨rfl, rfl⟩
theorem blR_r : blR (.ok (.v (.bl b))) = some (.v (.bl b)) := Eq.mpr rfl rfl
theorem pIsiO_r [CA] {k k' : Nat} {x : Bool} {p : List D → Option Sl} : pIsiO k k' x p [(.obj (CA.at_ k) os ds), .raw (.ref (CA.at_ k'))] = some (.v (.bl x)) := if_pos ⟨rfl, rfl⟩
theorem enF_r {a' : Sx → Re (List Ag)} : enF a' s = (a' s).bind enuK := Eq.mpr rfl rfl
theorem enuK_l : enuK [.v (.lst ds)] s = .ok (enD 0 ds) s := Eq.mpr rfl rfl
theorem enuK_t : enuK [.v (.tup ds)] s = .ok (enD 0 ds) s := Eq.mpr rfl rfl
theorem ite_and {P : Prop} [Decidable P] {x : Bool} : (if P then Re.ok x s else Re.ok false s) = Re.ok (decide P && x) s := by
  by_cases h : P
  · simp [h]
  · simp [h]
theorem ite_or {P : Prop} [Decidable P] {x : Bool} : (if P then Re.ok true s else Re.ok x s) = Re.ok (decide P || x) s := by
  by_cases h : P
  · simp [h]
  · simp [h]
theorem ite_andE {P : Prop} [Decidable P] {x : Bool} : (if P then Re.ok (Sl.v (.bl x)) s else Re.ok (Sl.v (.bl false)) s) = Re.ok (Sl.v (.bl (decide P && x))) s := by
  by_cases h : P
  · simp [h]
  · simp [h]
theorem ite_orE {P : Prop} [Decidable P] {x : Bool} : (if P then Re.ok (Sl.v (.bl true)) s else Re.ok (Sl.v (.bl x)) s) = Re.ok (Sl.v (.bl (decide P || x))) s := by
  by_cases h : P
  · simp [h]
  · simp [h]
theorem atI_of {α : Type} {xs : List α} {k : Nat} : L2.atI xs (no_index (@OfNat.ofNat Int k instOfNat)) = xs[k]? := by
  show (L2.ixN xs.length (k : Int)).bind _ = _
  unfold L2.ixN
  rw [if_pos (Int.natCast_nonneg _)]
  by_cases h : k < xs.length
  · rw [if_pos (by omega)]; rfl
  · rw [if_neg (by omega), List.getElem?_eq_none (by omega)]; rfl
theorem ixN_of {m k : Nat} : L2.ixN m (no_index (@OfNat.ofNat Int k instOfNat)) = if k < m then some k else none := by
  show L2.ixN m (k : Int) = _
  unfold L2.ixN
  rw [if_pos (Int.natCast_nonneg _)]
  by_cases h : k < m
  · rw [if_pos (by omega), if_pos h]; rfl
  · rw [if_neg (by omega), if_neg h]
theorem sizeLine_is : PySem.sizeLine = 16777216 := Eq.mpr rfl rfl
theorem natAbs_of {k : Nat} : Int.natAbs (no_index (@OfNat.ofNat Int k instOfNat)) = k := Eq.mpr rfl rfl
theorem toNat_of {k : Nat} : Int.toNat (no_index (@OfNat.ofNat Int k instOfNat)) = k := Eq.mpr rfl rfl
theorem flat_ints {ns : List Int} : flatDs (ns.map D.int) = true := flat_map (fun _ => rfl) ns
theorem flat_bls {ns : List Bool} : flatDs (ns.map D.bl) = true := flat_map (fun _ => rfl) ns
theorem flat_strs {ns : List PySem.Str} : flatDs (ns.map D.str) = true := flat_map (fun _ => rfl) ns
theorem rep_s {k : Nat} : List.replicate (k + 1) Sl.no = Sl.no :: List.replicate k Sl.no := Eq.mpr rfl rfl
theorem rep_0 : List.replicate 0 Sl.no = [] := Eq.mpr rfl rfl
theorem pSum_ints {ns : List Int} : pSum [.lst (ns.map .int)] = some (.v (.int ns.sum)) := by
  show (asInts (ns.map .int)).map _ = _
  rw [asInts_map]; rfl
theorem natc_of {k : Nat} : ((no_index (@OfNat.ofNat Nat k (instOfNatNat k)) : Nat) : Int) = @OfNat.ofNat Int k instOfNat := Eq.mpr rfl rfl
theorem cpL_0 {F : List D → Rc} {b : Bool} : cpL 0 F (some ([], b)) s = rcK (F []) b s := Eq.mpr rfl rfl
theorem starP_1 {F : List D → Rc} {x0 : D} : starP 1 F (x0 :: ds) = F [x0, .tup ds] := by
  simp [starP]
theorem starP_2 {F : List D → Rc} {x0 x1 : D} : starP 2 F (x0 :: x1 :: ds) = F [x0, x1, .tup ds] := by
  simp [starP]
theorem starP_3 {F : List D → Rc} {x0 x1 x2 : D} : starP 3 F (x0 :: x1 :: x2 :: ds) = F [x0, x1, x2, .tup ds] := by
  simp [starP]
theorem pInG_r [CA] {k : Nat} {ss : List PySem.Str} : pInG k ss ds [.str z, .raw (.ref (CA.at_ k))] = some (.v (.bl (dgS ss ds z).isSome)) := if_pos rfl
theorem pNinG_r [CA] {k : Nat} {ss : List PySem.Str} : pNinG k ss ds [.str z, .raw (.ref (CA.at_ k))] = some (.v (.bl (!(dgS ss ds z).isSome))) := if_pos rfl
theorem pIxG_r [CA] {k : Nat} {ss : List PySem.Str} : pIxG k ss ds [.raw (.ref (CA.at_ k)), .str z] = mpV (dgS ss ds z) := by
  show (if _ then (dgS ss ds z).map _ else none) = _
  rw [if_pos rfl]
  cases dgS ss ds z <;> rfl
theorem itgF_r {ss : List PySem.Str} : itgF ss ds s = .ok (prD ss ds) s := Eq.mpr rfl rfl
end
end Zf
/-! Loops and comprehensions, by what a turn does. -/
namespace Zf
open Zd
section
variable {S : Type} {g : D → Sx → Option Sx} {b : Sx → Rs} {ds : List D} {s : Sx} {vs : List Nat} {e : Sx → Re Sl}
/-! ### for -/
/-- a turn that goes on -/
def Turn (g : D → Sx → Option Sx) (b : Sx → Rs) (d : D) (s s2 : Sx) : Prop := ∃ s1, g d s = some s1 ∧ (b s1 = .nx s2 ∨ b s1 = .ct s2)
theorem forGo_turn {d : D} {s2 : Sx} (h : Turn g b d s s2) : forGo g b (d :: ds) s = forGo g b ds s2 := by
  obtain ⟨s1, h1, h2⟩ := h
  show (match g d s with | none => .no | some s1 => _ : Rs) = _
  rw [h1]
  dsimp only
  rcases h2 with h2 | h2 <;> rw [h2]
theorem forGo_nil : forGo g b [] s = .nx s := rfl
theorem forGo_run (I : S → Sx) (st : S → D → S) : ∀ {ds : List D} {σ : S}, (∀ d ∈ ds, ∀ σ, Turn g b d (I σ) (I (st σ d))) → forGo g b ds (I σ) = .nx (I (ds.foldl st σ))
  | [], σ, _ => rfl
  | d :: ds, σ, h => by
    rw [forGo_turn (h d (.head _) σ), forGo_run I st (fun d' hd => h d' (.tail _ hd))]
    rfl
theorem forGo_inv (Inv : List D → Sx → Prop) : ∀ {post pre : List D} {s : Sx}, (∀ pre' d post', pre ++ post = pre' ++ d :: post' → ∀ s, Inv pre' s → ∃ s2, Turn g b d s s2 ∧ Inv (pre' ++ [d]) s2) → Inv pre s → ∃ s', forGo g b post s = .nx s' ∧ Inv (pre ++ post) s'
  | [], pre, s, _, h0 => ⟨s, rfl, by rw [List.append_nil]; exact h0⟩
  | d :: post, pre, s, h, h0 => by
    obtain ⟨s2, t, h2⟩ := h pre d post rfl s h0
    obtain ⟨s', e1, e2⟩ := forGo_inv Inv (post := post) (pre := pre ++ [d]) (fun pre' d' post' e => h pre' d' post' (by rw [← e]; simp)) h2
    exact ⟨s', by rw [forGo_turn t]; exact e1, by simpa using e2⟩
/-- .. or the loop is left -/
def Left (g : D → Sx → Option Sx) (b : Sx → Rs) (d : D) (s : Sx) (r : Rs) : Prop := ∃ s1 r1, g d s = some s1 ∧ b s1 = r1 ∧ (∀ s2, r1 ≠ .nx s2 ∧ r1 ≠ .ct s2) ∧ r = r1.unbk
theorem forGo_left {d : D} {r : Rs} (h : Left g b d s r) : forGo g b (d :: ds) s = r := by
  obtain ⟨s1, r1, h1, h2, h3, rfl⟩ := h
  show (match g d s with | none => .no | some s1 => _ : Rs) = _
  rw [h1]
  dsimp only
  rw [h2]
  cases r1 with
  | nx s2 => exact absurd rfl (h3 s2).1
  | ct s2 => exact absurd rfl (h3 s2).2
  | _ => rfl
theorem forGo_or (Inv : List D → Sx → Prop) (Q : Rs → Prop) : ∀ {post pre : List D} {s : Sx}, (∀ pre' d post', pre ++ post = pre' ++ d :: post' → ∀ s, Inv pre' s → (∃ s2, Turn g b d s s2 ∧ Inv (pre' ++ [d]) s2) ∨ ∃ r, Left g b d s r ∧ Q r) → Inv pre s → (∃ s', forGo g b post s = .nx s' ∧ Inv (pre ++ post) s') ∨ Q (forGo g b post s)
  | [], pre, s, _, h0 => .inl ⟨s, rfl, by rw [List.append_nil]; exact h0⟩
  | d :: post, pre, s, h, h0 => by
    rcases h pre d post rfl s h0 with ⟨s2, t, h2⟩ | ⟨r, l, q⟩
    · rw [forGo_turn t]
      rcases forGo_or Inv Q (post := post) (pre := pre ++ [d]) (fun pre' d' post' e => h pre' d' post' (by rw [← e]; simp)) h2 with ⟨s', e1, e2⟩ | q
      · exact .inl ⟨s', e1, by simpa using e2⟩
      · exact .inr q
    · exact .inr (by rw [forGo_left l]; exact q)
theorem forGo_invA {α : Type} (emb : α → D) (Inv : List α → Sx → Prop) {as : List α} (h : ∀ pre a post, as = pre ++ a :: post → ∀ s, Inv pre s → ∃ s2, Turn g b (emb a) s s2 ∧ Inv (pre ++ [a]) s2) (h0 : Inv [] s) : ∃ s', forGo g b (as.map emb) s = .nx s' ∧ Inv as s' := by
  have key : ∀ (post pre : List α) (s : Sx), as = pre ++ post → Inv pre s → ∃ s', forGo g b (post.map emb) s = .nx s' ∧ Inv as s' := by
    intro post
    induction post with
    | nil => exact fun pre s e hi => ⟨s, rfl, by rw [e, List.append_nil]; exact hi⟩
    | cons a post ih =>
      intro pre s e hi
      obtain ⟨s2, t, h2⟩ := h pre a post e s hi
      obtain ⟨s', e1, e2⟩ := ih (pre ++ [a]) s2 (by rw [e]; simp) h2
      exact ⟨s', by rw [List.map_cons, forGo_turn t]; exact e1, e2⟩
  exact key as [] s rfl h0
theorem forGo_orA {α : Type} (emb : α → D) (Inv : List α → Sx → Prop) (Q : Rs → Prop) {as : List α} (h : ∀ pre a post, as = pre ++ a :: post → ∀ s, Inv pre s → (∃ s2, Turn g b (emb a) s s2 ∧ Inv (pre ++ [a]) s2) ∨ ∃ r, Left g b (emb a) s r ∧ Q r) (h0 : Inv [] s) : (∃ s', forGo g b (as.map emb) s = .nx s' ∧ Inv as s') ∨ ∃ r, forGo g b (as.map emb) s = r ∧ Q r := by
  have key : ∀ (post pre : List α) (s : Sx), as = pre ++ post → Inv pre s → (∃ s', forGo g b (post.map emb) s = .nx s' ∧ Inv as s') ∨ ∃ r, forGo g b (post.map emb) s = r ∧ Q r := by
    intro post
    induction post with
    | nil => exact fun pre s e hi => .inl ⟨s, rfl, by rw [e, List.append_nil]; exact hi⟩
    | cons a post ih =>
      intro pre s e hi
      rcases h pre a post e s hi with ⟨s2, t, h2⟩ | ⟨r, l, q⟩
      · rw [List.map_cons, forGo_turn t]
        exact ih (pre ++ [a]) s2 (by rw [e]; simp) h2
      · exact .inr ⟨r, by rw [List.map_cons, forGo_left l], q⟩
  exact key as [] s rfl h0
theorem Turn.nx {d : D} {s1 s2 : Sx} (h : g d s = some s1) (hb : b s1 = .nx s2) : Turn g b d s s2 := ⟨s1, h, .inl hb⟩
theorem Turn.ct {d : D} {s1 s2 : Sx} (h : g d s = some s1) (hb : b s1 = .ct s2) : Turn g b d s s2 := ⟨s1, h, .inr hb⟩
theorem Left.rt {d : D} {s1 s2 : Sx} {r : Sl} (h : g d s = some s1) (hb : b s1 = .rt r s2) : Left g b d s (.rt r s2) := ⟨s1, _, h, hb, fun _ => ⟨(fun e => by cases e), fun e => by cases e⟩, rfl⟩
theorem Left.ex {d : D} {s1 s2 : Sx} {x : Xn} (h : g d s = some s1) (hb : b s1 = .ex x s2) : Left g b d s (.ex x s2) := ⟨s1, _, h, hb, fun _ => ⟨(fun e => by cases e), fun e => by cases e⟩, rfl⟩
theorem Left.bk {d : D} {s1 s2 : Sx} (h : g d s = some s1) (hb : b s1 = .bk s2) : Left g b d s (.nx s2) := ⟨s1, _, h, hb, fun _ => ⟨(fun e => by cases e), fun e => by cases e⟩, rfl⟩
/-! ### comprehensions -/
def runL (st : S → D → D × S) : List D → S → List D × S
  | [], σ => ([], σ)
  | d :: ds, σ => ((st σ d).1 :: (runL st ds (st σ d).2).1, (runL st ds (st σ d).2).2)
/-- an element made -/
def Made (vs : List Nat) (g : D → Sx → Option Sx) (e : Sx → Re Sl) (d : D) (s : Sx) (x : D) (s' : Sx) : Prop := ∃ s1 r s2, g d s = some s1 ∧ e s1 = .ok r s2 ∧ fastS r = some x ∧ wipeS s2 vs = s'
theorem lcGo_made {d x : D} {s' : Sx} (h : Made vs g e d s x s') : lcGo vs g none e (d :: ds) s = (match lcGo vs g none e ds s' with | some (xs, s4) => some (x :: xs, s4) | none => none) := by
  obtain ⟨s1, r, s2, h1, h2, h3, h4⟩ := h
  show (match g d s with | none => none | some s1 => _ : Option (List D × Sx)) = _
  rw [h1]
  dsimp only [cnd]
  rw [h2]
  dsimp only
  rw [h3]
  dsimp only
  subst h4
  rfl
theorem lcGo_run (I : S → Sx) (st : S → D → D × S) : ∀ {ds : List D} {σ : S}, (∀ d ∈ ds, ∀ σ, Made vs g e d (I σ) (st σ d).1 (I (st σ d).2)) → lcGo vs g none e ds (I σ) = some ((runL st ds σ).1, I (runL st ds σ).2)
  | [], σ, _ => rfl
  | d :: ds, σ, h => by
    rw [lcGo_made (h d (.head _) σ), lcGo_run I st (fun d' hd => h d' (.tail _ hd))]
    rfl
theorem lcGo_map (f : D → D) : ∀ {ds : List D}, (∀ d ∈ ds, Made vs g e d s (f d) s) → lcGo vs g none e ds s = some (ds.map f, s)
  | [], _ => rfl
  | d :: ds, h => by
    rw [lcGo_made (h d (.head _)), lcGo_map f (fun d' hd => h d' (.tail _ hd))]
    rfl
/-- with a test that changes nothing -/
theorem lcGo_filter {c : Sx → Re Bool} (t : D → Bool) (f : D → D) : ∀ {ds : List D}, (∀ d ∈ ds, ∃ s1, g d s = some s1 ∧ c s1 = .ok (t d) s1 ∧ (t d = true → ∃ r s2, e s1 = .ok r s2 ∧ fastS r = some (f d) ∧ wipeS s2 vs = s) ∧ (t d = false → wipeS s1 vs = s)) → lcGo vs g (some c) e ds s = some ((ds.filter t).map f, s)
  | [], _ => rfl
  | d :: ds, h => by
    have ih := lcGo_filter (c := c) t f (fun d' hd => h d' (.tail _ hd))
    obtain ⟨s1, h1, h2, h3, h4⟩ := h d (.head _)
    show (match g d s with | none => none | some s1 => _ : Option (List D × Sx)) = _
    rw [h1]
    dsimp only [cnd]
    rw [h2]
    cases ht : t d with
    | true =>
      obtain ⟨r, s2, g1, g2, g3⟩ := h3 ht
      dsimp only
      rw [g1]
      dsimp only
      rw [g2]
      dsimp only
      rw [g3, ih, List.filter_cons, if_pos ht]
      rfl
    | false =>
      dsimp only
      rw [h4 ht, ih, List.filter_cons, if_neg (by rw [ht]; exact Bool.false_ne_true)]
/-- the same, told of lists of another kind -/
theorem lcGo_of {α : Type} (emb : α → D) (f : α → D) {as : List α} (h : ∀ a ∈ as, Made vs g e (emb a) s (f a) s) : lcGo vs g none e (as.map emb) s = some (as.map f, s) := by
  induction as with
  | nil => rfl
  | cons a as ih =>
    rw [List.map_cons, lcGo_made (h a (.head _)), ih (fun a' ha => h a' (.tail _ ha))]
    rfl
theorem lcGo_inv (Inv : List D → Sx → Prop) : ∀ {post : List D} {acc : List D} {s : Sx}, (∀ d ∈ post, ∀ acc s, Inv acc s → ∃ x s', Made vs g e d s x s' ∧ Inv (acc ++ [x]) s') → Inv acc s → ∃ xs s', lcGo vs g none e post s = some (xs, s') ∧ xs.length = post.length ∧ Inv (acc ++ xs) s'
  | [], acc, s, _, h0 => ⟨[], s, rfl, rfl, by rw [List.append_nil]; exact h0⟩
  | d :: post, acc, s, h, h0 => by
    obtain ⟨x, s', m, h2⟩ := h d (.head _) acc s h0
    obtain ⟨xs, s3, e1, e2, e3⟩ := lcGo_inv Inv (fun d' hd => h d' (.tail _ hd)) h2
    refine ⟨x :: xs, s3, by rw [lcGo_made m, e1], by simp [e2], by simpa using e3⟩
theorem lcGo_invA {α : Type} (emb : α → D) (Inv : List D → Sx → Prop) {as : List α} (h : ∀ a ∈ as, ∀ acc s, Inv acc s → ∃ x s', Made vs g e (emb a) s x s' ∧ Inv (acc ++ [x]) s') (h0 : Inv [] s) : ∃ xs s', lcGo vs g none e (as.map emb) s = some (xs, s') ∧ xs.length = as.length ∧ Inv xs s' := by
  obtain ⟨xs, s', e1, e2, e3⟩ := lcGo_inv (post := as.map emb) (acc := []) Inv (fun d hd acc s hi => by
    obtain ⟨a, ha, rfl⟩ := List.mem_map.mp hd
    exact h a ha acc s hi) h0
  exact ⟨xs, s', e1, by simpa using e2, by simpa using e3⟩
theorem Made.of {d x : D} {s1 s2 s' : Sx} {r : Sl} (h1 : g d s = some s1) (h2 : e s1 = .ok r s2) (h3 : fastS r = some x) (h4 : wipeS s2 vs = s') : Made vs g e d s x s' := ⟨s1, r, s2, h1, h2, h3, h4⟩
theorem Made.pure {d x : D} {s1 s' : Sx} {r : Sl} (h1 : g d s = some s1) (h2 : e s1 = .ok r s1) (h3 : fastS r = some x) (h4 : wipeS s1 vs = s') : Made vs g e d s x s' := ⟨s1, r, s1, h1, h2, h3, h4⟩
end
/-! ### data compared with itself -/
mutual
theorem eqD_self : ∀ (n : Nat) (d : D), okB n d = true → eqD d d = true
  | _, .non, _ => rfl
  | _, .bl _, _ => by simp [eqD]
  | _, .int _, _ => by simp [eqD]
  | _, .str _, _ => by simp [eqD]
  | n, .lst ds, h => by
    cases n with
    | zero => cases h
    | succ n => exact eqDs_self n ds h
  | n, .tup ds, h => by
    cases n with
    | zero => cases h
    | succ n => exact eqDs_self n ds h
  | n, .raw _, h => by cases n <;> cases h
  | n, .klst _, h => by cases n <;> cases h
  | n, .dic _ _, h => by cases n <;> cases h
  | n, .obj _ _ _, h => by cases n <;> cases h
  | n, .xex _ _ _ _, h => by cases n <;> cases h
theorem eqDs_self : ∀ (n : Nat) (ds : List D), ds.all (okB n) = true → eqDs ds ds = true
  | _, [], _ => rfl
  | n, d :: ds, h => by
    rw [List.all_cons, Bool.and_eq_true] at h
    show (eqD d d && eqDs ds ds) = true
    rw [eqD_self n d h.1, eqDs_self n ds h.2]
    rfl
end
theorem eqQ_self {d : D} (h : okB 64 d = true) : eqQ d d = some true := by
  have e := eqD_self 64 d h
  cases d with
  | int i => exact congrArg some (decide_eq_true rfl)
  | str i => exact congrArg some (decide_eq_true rfl)
  | bl i => exact congrArg some (decide_eq_true rfl)
  | non => rfl
  | lst ds => show (if (okB 64 (.lst ds) && okB 64 (.lst ds)) = true then some (eqD (.lst ds) (.lst ds)) else none) = _; rw [h, e]; rfl
  | tup ds => show (if (okB 64 (.tup ds) && okB 64 (.tup ds)) = true then some (eqD (.tup ds) (.tup ds)) else none) = _; rw [h, e]; rfl
  | raw _ => cases h
  | klst _ => cases h
  | dic _ _ => cases h
  | obj _ _ _ => cases h
  | xex _ _ _ _ => cases h
theorem pEq_self {d : D} (h : okB 64 d = true) : pEq [d, d] = some (.v (.bl true)) := by
  show (eqQ d d).map _ = _
  rw [eqQ_self h]; rfl
theorem pNe_self {d : D} (h : okB 64 d = true) : pNe [d, d] = some (.v (.bl false)) := by
  show (eqQ d d).map _ = _
  rw [eqQ_self h]; rfl
theorem okB_mono : ∀ {n m : Nat} {d : D}, n ≤ m → okB n d = true → okB m d = true
  | n, m, .non, _, _ => by cases m <;> rfl
  | n, m, .bl _, _, _ => by cases m <;> rfl
  | n, m, .int _, _, _ => by cases m <;> rfl
  | n, m, .str s, _, h => by
    have h : PySem.PyData.strOk s = true := by cases n <;> exact h
    cases m <;> exact h
  | n + 1, m + 1, .lst ds, hl, h => by
    show ds.all (okB m) = true
    rw [List.all_eq_true]
    exact fun x hx => okB_mono (Nat.le_of_succ_le_succ hl) (List.all_eq_true.mp h x hx)
  | n + 1, m + 1, .tup ds, hl, h => by
    show ds.all (okB m) = true
    rw [List.all_eq_true]
    exact fun x hx => okB_mono (Nat.le_of_succ_le_succ hl) (List.all_eq_true.mp h x hx)
  | 0, _, .lst _, _, h => by cases h
  | 0, _, .tup _, _, h => by cases h
  | n, _, .raw _, _, h => by cases n <;> cases h
  | n, _, .klst _, _, h => by cases n <;> cases h
  | n, _, .dic _ _, _, h => by cases n <;> cases h
  | n, _, .obj _ _ _, _, h => by cases n <;> cases h
  | n, _, .xex _ _ _ _, _, h => by cases n <;> cases h
/-! ### what _law_plain tells -/
mutual
def plainD : D → D
  | .lst ds => .tup [.bl true, .lst (plainDs ds)]
  | .tup ds => .tup [.bl false, .lst (plainDs ds)]
  | .bl b => .tup [.bl true, .bl b]
  | d => .tup [.bl false, d]
def plainDs : List D → List D
  | [] => []
  | d :: ds => plainD d :: plainDs ds
end
theorem plainDs_map : ∀ (ds : List D), plainDs ds = ds.map plainD
  | [] => rfl
  | d :: ds => by rw [plainDs, plainDs_map ds]; rfl
/-- data of at most that depth, no list too long -/
def okL : Nat → D → Bool
  | _, .non => true
  | _, .bl _ => true
  | _, .int _ => true
  | _, .str s => PySem.PyData.strOk s
  | n + 1, .lst ds => decide (ds.length ≤ PySem.sizeLine) && ds.all (okL n)
  | n + 1, .tup ds => decide (ds.length ≤ PySem.sizeLine) && ds.all (okL n)
  | _, _ => false
theorem okL_str {n : Nat} {s : PySem.Str} (h : PySem.PyData.strOk s = true) : okL n (.str s) = true := by cases n <;> exact h
theorem okL_int {n : Nat} {i : Int} : okL n (.int i) = true := by cases n <;> rfl
theorem okL_bl {n : Nat} {i : Bool} : okL n (.bl i) = true := by cases n <;> rfl
theorem okL_non {n : Nat} : okL n .non = true := by cases n <;> rfl
theorem okL_tup {n : Nat} {ds : List D} (hl : ds.length ≤ 16777216) (h : ds.all (okL n) = true) : okL (n + 1) (.tup ds) = true := by
  show (decide (ds.length ≤ PySem.sizeLine) && ds.all (okL n)) = true
  rw [h, decide_eq_true (show ds.length ≤ PySem.sizeLine from hl)]; rfl
theorem okL_lst {n : Nat} {ds : List D} (hl : ds.length ≤ 16777216) (h : ds.all (okL n) = true) : okL (n + 1) (.lst ds) = true := by
  show (decide (ds.length ≤ PySem.sizeLine) && ds.all (okL n)) = true
  rw [h, decide_eq_true (show ds.length ≤ PySem.sizeLine from hl)]; rfl
theorem okB_plain : ∀ (n : Nat) (d : D), okL n d = true → okB (2 * n + 1) (plainD d) = true
  | n, .non, _ => by show (List.all [D.bl false, .non] (okB (2 * n))) = true; cases n <;> rfl
  | n, .bl b, _ => by show (List.all [D.bl true, .bl b] (okB (2 * n))) = true; cases n <;> rfl
  | n, .int i, _ => by show (List.all [D.bl false, .int i] (okB (2 * n))) = true; cases n <;> rfl
  | n, .str s, h => by
    have h : PySem.PyData.strOk s = true := by cases n <;> exact h
    show (okB (2 * n) (.bl false) && (okB (2 * n) (.str s) && true)) = true
    have e : okB (2 * n) (.str s) = true := by
      generalize 2 * n = m
      cases m <;> exact h
    rw [e]
    generalize 2 * n = m
    cases m <;> rfl
  | n + 1, .lst ds, h => by
    have h := (Bool.and_eq_true_iff.mp h).2
    show (okB (2 * n + 2) (.bl true) && ((plainDs ds).all (okB (2 * n + 1)) && true)) = true
    rw [plainDs_map]
    have : (ds.map plainD).all (okB (2 * n + 1)) = true := by
      rw [List.all_map, List.all_eq_true]
      exact fun x hx => okB_plain n x (List.all_eq_true.mp h x hx)
    rw [this]; rfl
  | n + 1, .tup ds, h => by
    have h := (Bool.and_eq_true_iff.mp h).2
    show (okB (2 * n + 2) (.bl false) && ((plainDs ds).all (okB (2 * n + 1)) && true)) = true
    rw [plainDs_map]
    have : (ds.map plainD).all (okB (2 * n + 1)) = true := by
      rw [List.all_map, List.all_eq_true]
      exact fun x hx => okB_plain n x (List.all_eq_true.mp h x hx)
    rw [this]; rfl
  | 0, .lst _, h => by cases h
  | 0, .tup _, h => by cases h
  | n, .raw _, h => by cases n <;> cases h
  | n, .klst _, h => by cases n <;> cases h
  | n, .dic _ _, h => by cases n <;> cases h
  | n, .obj _ _ _, h => by cases n <;> cases h
  | n, .xex _ _ _ _, h => by cases n <;> cases h
theorem okB_plain64 {n : Nat} {d : D} (h : okL n d = true) (hn : n ≤ 31) : okB 64 (plainD d) = true := okB_mono (by omega) (okB_plain n d h)
/-- a block in a block -/
theorem blk_app (m : List (Sx → Rs)) : ∀ l : List (Sx → Rs), blk (l ++ [blk m]) = blk (l ++ m)
  | [] => funext fun s => by
    show (match blk m s with | .nx s1 => _ | .rt r s => _ | .bk s => _ | .ct s => _ | .ex x s => _ | .no => _ : Rs) = blk m s
    cases blk m s <;> rfl
  | f :: l => funext fun s => by
    have ih := blk_app m l
    show (match f s with | .nx s1 => blk (l ++ [blk m]) s1 | .rt r s => _ | .bk s => _ | .ct s => _ | .ex x s => _ | .no => _ : Rs) = (match f s with | .nx s1 => blk (l ++ m) s1 | .rt r s => _ | .bk s => _ | .ct s => _ | .ex x s => _ | .no => _ : Rs)
    rw [ih]
end Zf
/-! The end: checks for own classes, keyword calls. -/
namespace Zf
open PySem PySem.Spec L2 Zd
def clsB (C : PySem.W.Frag → Addr) : Ck := fun K => PySem.W.plainGet K (C K) Str.empty && (PySem.W.hasDictIn K (C K) && (PySem.W.plainOver K (C K) && decide (PySem.W.findIn K (.ref (C K)) "__setattr__" = some (some (.builtin "object.__setattr__")))))
theorem clsB_ok {C : PySem.W.Frag → Addr} {K : PySem.W.Frag} (h : clsB C K = true) : Cls K (C K) := by
  obtain ⟨h1, h⟩ := He.ba h
  obtain ⟨h2, h⟩ := He.ba h
  obtain ⟨h3, h4⟩ := He.ba h
  exact ⟨h1, h2, h3, of_decide_eq_true h4⟩
def mkB (C : PySem.W.Frag → Addr) (f : Str × Option Str) : Ck := fun K => PySem.W.makesIn K (C K) && (decide (PySem.W.findIn K (.ref (C K)) "__init__" = some (some (.ref (He.fAd K f)))) && (PySem.W.isFn K (.ref (He.fAd K f)) && PySem.W.keepIn K (.ref (C K))))
theorem mkB_ok {C : PySem.W.Frag → Addr} {f : Str × Option Str} {K : PySem.W.Frag} (h : mkB C f K = true) : Mk K (C K) (He.fAd K f) := by
  obtain ⟨h1, h⟩ := He.ba h
  obtain ⟨h2, h⟩ := He.ba h
  obtain ⟨h3, h4⟩ := He.ba h
  exact ⟨h1, of_decide_eq_true h2, h3, h4⟩
def metB (C : PySem.W.Frag → Addr) (m : Str) (f : Str × Option Str) : Ck := fun K => decide (PySem.W.findIn K (.ref (C K)) m = some (some (.ref (He.fAd K f)))) && (PySem.W.isFn K (.ref (He.fAd K f)) && PySem.W.keepIn K (.ref (He.fAd K f)))
theorem metB_ok {C : PySem.W.Frag → Addr} {m : Str} {f : Str × Option Str} {K : PySem.W.Frag} (h : metB C m f K = true) : Meth K (C K) m (He.fAd K f) := by
  obtain ⟨h1, h⟩ := He.ba h
  obtain ⟨h2, h3⟩ := He.ba h
  exact ⟨of_decide_eq_true h1, h2, h3⟩
def isoB (C C' : PySem.W.Frag → Addr) (b : Bool) : Ck := fun K => clsB C K && (decide (PySem.W.findIn K (.ref (C K)) "__class__" = some (some (.builtin "object.__class__"))) && (decide (PySem.W.specialIn K (.builtin "object.__class__") "__get__" = some (some (.builtin "getset_descriptor.__get__"))) && (decide (PySem.W.takesIn K (.builtin "object.__class__") = some true) &&
  (decide (PySem.W.mroIn K (C K) (.type "object") = some true) && decide (PySem.W.kitOne K (.ref (C K)) (.ref (C' K)) = some b)))))
theorem isoB_ok [CA] {C C' : PySem.W.Frag → Addr} {c c' : Nat} {b : Bool} {K : PySem.W.Frag} (e1 : CA.at_ c = C K) (e2 : CA.at_ c' = C' K) (h : isoB C C' b K = true) : ISO K c c' b := by
  obtain ⟨h1, h⟩ := He.ba h
  obtain ⟨h2, h⟩ := He.ba h
  obtain ⟨h3, h⟩ := He.ba h
  obtain ⟨h4, h⟩ := He.ba h
  obtain ⟨h5, h6⟩ := He.ba h
  refine ⟨by rw [e1]; exact clsB_ok h1, by rw [e1]; exact of_decide_eq_true h2, of_decide_eq_true h3, of_decide_eq_true h4, by rw [e1]; exact of_decide_eq_true h5, by rw [e1, e2]; exact of_decide_eq_true h6⟩
/-- how a def that is called with keywords binds -/
theorem kb_of {K : PySem.W.Frag} {x qual : Str} {st : Stmt} {f : Addr} {fd : FuncData} {ps ks : List Str} {n : Nat} (F : Fun K x qual st f fd)
    (h : ∀ (kV doc pm : Value) (an : Option Addr) (cdv ct : Value) (us ws : List Value), us.length = n → ws.length = ks.length → bindArgs (PySem.W.fnOf x qual (defArgs st) (defBody st) (defScope st) .none kV doc pm an cdv ct) ⟨us, ks.zip ws⟩ = pure (ps.zip (us ++ ws))) : KB K fd ps n ks := by
  obtain ⟨oc, od, kV, doc, pm, an, cdv, ct, osl, rfl, lk, hcd⟩ := F.ex
  exact ⟨fun s us ws X l1 l2 => .of_eq (h kV doc pm an cdv ct us ws l1 l2), fun r1 r2 => r1.append r2⟩
end Zf
/-! The end, with written dicts. -/
namespace Zf
open PySem PySem.Spec L2 Zd
abbrev AlY : Type := He.AlD × List (Option (List (Option (Str × Int))))
def obsY (fa : List Ck) (fn : List He.DefD) (ts : List He.Tab) (K : PySem.W.Frag) : AlY := (obsZ fa fn K, ts.map fun t => He.dicW K (t.1 K))
def valY (fn : List He.DefD) (ts : List He.Tab) (w : World) : AlY := (He.valD fn, ts.map fun t => some (He.keysIn w.params t.2))
def SaysY (fa : List Ck) (fn : List He.DefD) (ts : List He.Tab) (w : World) (K : PySem.W.Frag) : Prop := obsY fa fn ts K = valY fn ts w
def obsYG (n : Nat) (fa : List Ck) (fn : List He.DefD) (ts : List He.Tab) (g : Addr → Option Obj) : AlY := obsY fa fn ts (He.frG g (He.asD g n))
def hookY (n : Nat) (fa : List Ck) (fn : List He.DefD) (ts : List He.Tab) : PySem.W.Hook where
  α := AlY
  obs := fun s => obsYG n fa fn ts s.heap.get?
  val := fun w => valY fn ts w
  says := fun w h => ∃ K : PySem.W.Frag, K.In h ∧ SaysY fa fn ts w K
  of := fun _ _ e => ⟨_, He.frG_in, e⟩
  keeps := fun _ _ _ ⟨K, hK, c⟩ k => ⟨K, PySem.W.Frag.In.keeps hK k, c⟩
theorem obsYG_eq {n : Nat} {fa : List Ck} {fn : List He.DefD} {ts : List He.Tab} {g : Addr → Option Obj} {s : Shared} (h : ∀ a, g a = s.heap.get? a) : obsYG n fa fn ts g = (hookY n fa fn ts).obs s := by
  have e : g = s.heap.get? := funext h
  rw [e] <;> rfl
section
variable {fa : List Ck} {fn : List He.DefD} {ts : List He.Tab} {w : World} {K : PySem.W.Frag}
theorem SaysY.z (c : SaysY fa fn ts w K) : SaysZ fa fn K := congrArg (fun z : AlY => z.1) c
theorem SaysY.tab (c : SaysY fa fn ts w K) (i : Nat) {t : He.Tab} (h : ts[i]? = some t := by rfl) : ∃ es n, KDict K w (t.1 K) es n := by
  have e : ts.map (fun t => He.dicW K (t.1 K)) = ts.map fun t => some (He.keysIn w.params t.2) := congrArg (fun z : AlY => z.2) c
  have e2 : (ts.map fun t => He.dicW K (t.1 K))[i]? = (ts.map fun t => some (He.keysIn w.params t.2))[i]? := by rw [e]
  rw [List.getElem?_map, List.getElem?_map, h] at e2
  exact He.dicW_ok (Option.some.inj e2)
end
end Zf
namespace K
open PySem L2 Zd Zf
open PyProof.Rows (envOfC)
def topS (i : Nat) : Stmt := PySem.Challenge.pw_romwright_k17_code_words_back.main.body.getD i (.Pass ⟨0, 0, 0, 0⟩)
abbrev st_BadItem_init : Stmt := inClass (topS 3) 0
abbrev N_BadItem_init : List Str := ["self", "place"]
theorem sc_BadItem_init : FnScope N_BadItem_init ["self", "place"] (defScope st_BadItem_init) := ⟨rfl, rfl, rfl, by decide +kernel, rfl, by decide +kernel, by decide +kernel⟩
abbrev st_is_number : Stmt := topS 4
abbrev N_is_number : List Str := ["thing"]
theorem sc_is_number : FnScope N_is_number ["thing"] (defScope st_is_number) := ⟨rfl, rfl, rfl, by decide +kernel, rfl, by decide +kernel, by decide +kernel⟩
abbrev st_is_word : Stmt := topS 5
abbrev N_is_word : List Str := ["thing"]
theorem sc_is_word : FnScope N_is_word ["thing"] (defScope st_is_word) := ⟨rfl, rfl, rfl, by decide +kernel, rfl, by decide +kernel, by decide +kernel⟩
abbrev st_code_words : Stmt := topS 10
abbrev N_code_words : List Str := ["instruction", "operands", "with_operand", "first", "operand"]
theorem sc_code_words : FnScope N_code_words ["instruction", "operands"] (defScope st_code_words) := ⟨rfl, rfl, rfl, by decide +kernel, rfl, by decide +kernel, by decide +kernel⟩
abbrev st_instruction_of : Stmt := topS 11
abbrev N_instruction_of : List Str := ["number", "instruction", "own"]
theorem sc_instruction_of : FnScope N_instruction_of ["number"] (defScope st_instruction_of) := ⟨rfl, rfl, rfl, by decide +kernel, rfl, by decide +kernel, by decide +kernel⟩
abbrev st_decoded : Stmt := topS 12
abbrev N_decoded : List Str := ["words", "instruction", "low"]
theorem sc_decoded : FnScope N_decoded ["words"] (defScope st_decoded) := ⟨rfl, rfl, rfl, by decide +kernel, rfl, by decide +kernel, by decide +kernel⟩
abbrev st_law_source : Stmt := topS 14
abbrev N_law_source : List Str := ["script", "cells", "cell", "mixed"]
theorem sc_law_source : FnScope N_law_source ["script"] (defScope st_law_source) := ⟨rfl, rfl, rfl, by decide +kernel, rfl, by decide +kernel, by decide +kernel⟩
abbrev st_law_draw : Stmt := topS 15
abbrev N_law_draw : List Str := ["source", "below", "cells", "place", "digits", "count", "seed", "number"]
theorem sc_law_draw : FnScope N_law_draw ["source", "below"] (defScope st_law_draw) := ⟨rfl, rfl, rfl, by decide +kernel, rfl, by decide +kernel, by decide +kernel⟩
abbrev st_law_word : Stmt := topS 16
abbrev N_law_word : List Str := ["source", "way"]
theorem sc_law_word : FnScope N_law_word ["source"] (defScope st_law_word) := ⟨rfl, rfl, rfl, by decide +kernel, rfl, by decide +kernel, by decide +kernel⟩
abbrev st_law_plain : Stmt := topS 17
abbrev N_law_plain : List Str := ["thing", "one"]
theorem sc_law_plain : FnScope N_law_plain ["thing"] (defScope st_law_plain) := ⟨rfl, rfl, rfl, by decide +kernel, rfl, by decide +kernel, by decide +kernel⟩
abbrev st_law_table : Stmt := topS 18
abbrev N_law_table : List Str := ["names", "doubles", "rows", "k", "form"]
theorem sc_law_table : FnScope N_law_table [] (defScope st_law_table) := ⟨rfl, rfl, rfl, by decide +kernel, rfl, by decide +kernel, by decide +kernel⟩
abbrev st_law_due : Stmt := topS 19
abbrev N_law_due : List Str := ["number", "form", "operand"]
theorem sc_law_due : FnScope N_law_due ["number", "form", "operand"] (defScope st_law_due) := ⟨rfl, rfl, rfl, by decide +kernel, rfl, by decide +kernel, by decide +kernel⟩
abbrev st_law_there_and_back : Stmt := topS 20
abbrev N_law_there_and_back : List Str := ["source", "name", "number", "form", "choices", "behind", "step", "operand", "due", "back", "told"]
theorem sc_law_there_and_back : FnScope N_law_there_and_back ["source", "name", "number", "form"] (defScope st_law_there_and_back) := ⟨rfl, rfl, rfl, by decide +kernel, rfl, by decide +kernel, by decide +kernel⟩
abbrev st_law_first_words : Stmt := topS 21
abbrev N_law_first_words : List Str := ["source", "rows", "low", "second", "number", "name", "form", "part", "told", "due"]
theorem sc_law_first_words : FnScope N_law_first_words ["source", "rows"] (defScope st_law_first_words) := ⟨rfl, rfl, rfl, by decide +kernel, rfl, by decide +kernel, by decide +kernel⟩
abbrev st_law_refused : Stmt := topS 22
abbrev N_law_refused : List Str := ["name", "operands", "place", "e"]
theorem sc_law_refused : FnScope N_law_refused ["name", "operands", "place"] (defScope st_law_refused) := ⟨rfl, rfl, rfl, by decide +kernel, rfl, by decide +kernel, by decide +kernel⟩
abbrev st_law_misfits : Stmt := topS 23
abbrev N_law_misfits : List Str := ["source", "form", "far"]
theorem sc_law_misfits : FnScope N_law_misfits ["source", "form"] (defScope st_law_misfits) := ⟨rfl, rfl, rfl, by decide +kernel, rfl, by decide +kernel, by decide +kernel⟩
abbrev st_law : Stmt := topS 24
abbrev N_law : List Str := ["script", "source", "rows", "name", "number", "form", "odd", "strange", "operands", "word", "operand"]
theorem sc_law : FnScope N_law ["script"] (defScope st_law) := ⟨rfl, rfl, rfl, by decide +kernel, rfl, by decide +kernel, by decide +kernel⟩
structure Txt (K : PySem.W.Frag) (mg : Str → Option Value) : Prop where
  b_len : mg "len" = none
  b_range : mg "range" = none
  b_int : mg "int" = none
  b_abs : mg "abs" = none
  b_list : mg "list" = none
  b_tuple : mg "tuple" = none
  b_isinstance : mg "isinstance" = none
  b_str : mg "str" = none
  b_bool : mg "bool" = none
  b_ValueError : mg "ValueError" = none
  g_BLANK : ∃ t, mg "BLANK" = some (.int 65535 t)
  g_TWO_WORDS : GCon K mg "TWO_WORDS" (.tup [(.str "push"), (.str "go wide"), (.str "unless wide"), (.str "call wide"), (.str "far"), (.str "bring"), (.str "hop")])
  g_SHORT : GCon K mg "SHORT" (.tup [(.str "go short"), (.str "unless short"), (.str "call short")])
end K
namespace K
open PySem Zd Zf
section
variable [CA]
def ks_NUMBERS : List Str := ["push", "dup", "drop", "swap", "over", "add", "sub", "mul", "less", "same", "load", "store", "go short", "go wide", "unless short", "unless wide", "call short", "call wide", "ret", "out", "ask", "far", "bring", "save", "confirm", "halt", "hop"]
def ds_NUMBERS : List D := [(.int 1), (.int 2), (.int 3), (.int 4), (.int 5), (.int 6), (.int 7), (.int 8), (.int 9), (.int 10), (.int 11), (.int 12), (.int 13), (.int 14), (.int 15), (.int 16), (.int 17), (.int 18), (.int 19), (.int 20), (.int 21), (.int 22), (.int 23), (.int 24), (.int 25), (.int 26), (.int 27)]
structure DXs [CA] (w : World) (K : PySem.W.Frag) (mg : Str → Option Value) : Prop where
  d_NUMBERS : GDic w K mg "NUMBERS" 2000 ks_NUMBERS ds_NUMBERS
def nm_ : Nat → Str := fun c => match c with
  | 0 => "RomError"
  | 1 => "BadItem"
  | 2000 => "NUMBERS"
  | _ => ""
def cv_ [CA] : Nat → Value := fun c => match c with
  | 0 => .ref (CA.at_ 0)
  | 1 => .ref (CA.at_ 1)
  | 1000 => .type "ValueError"
  | _ => .none
def sub_ : Nat → Nat → Option Bool := fun c c' => match c, c' with
  | 1, 0 => some true
  | 1, 1 => some true
  | 1, 1000 => some true
  | _, _ => none
def fo_ : Nat → Option Str := fun c => match c with
  | 1 => some "place"
  | _ => none

noncomputable def f_is_number : Sx → Rs := (blk [(retF (eAnd (opF pIsi (aS 0 (aE (cst (.raw (.ty "int"))) aN))) (eNot truD (aE (opF pIsi (aS 0 (aE (cst (.raw (.ty "bool"))) aN))) aN))))])
noncomputable def F_is_number : List D → Rc := runP 1 f_is_number
noncomputable def b_instruction_of_0 : Sx → Rs := (blk [(ifF (tOpF pEq (aS 2 (aS 0 aN))) (blk [(retF (mv 1))]) (blk []))])
noncomputable def f_instruction_of : Sx → Rs := (blk [(forF (tgP 1 2) (itgF ks_NUMBERS ds_NUMBERS) (b_instruction_of_0)),
  (retF (cst .non))])
noncomputable def F_instruction_of : List D → Rc := runP 3 f_instruction_of
noncomputable def e_law_source_0 : Sx → Re Sl := (opF pAbs (aE (opF pInt (aS 2 aN)) aN))
noncomputable def f_law_source : Sx → Rs := (blk [(asgZ 1 (lcF [2] (tgN 2) (itF (fz 0)) none (e_law_source_0))),
  (ifF (tOpF pEq (aE (opF pLenC (aS 1 aN)) (aE (cst (.int 0)) aN))) (blk [(asgZ 1 (opF pLst (aE (cst (.int 5)) aN)))]) (blk [])),
  (asgZ 3 (cst (.int 0))),
  (ifF (tOpF pLt (aE (opF pIxC (aS 1 (aE (cst (.int 0)) aN))) (aE (opF pPow (aE (cst (.int 10)) (aE (cst (.int 18)) aN))) aN))) (blk [(asgZ 3 (opF pMod (aE (opF pInt (aE (opF pIxC (aS 1 (aE (cst (.int 0)) aN))) aN)) (aE (cst (.int 2)) aN))))]) (blk [])),
  (retF (opF pLst (aE (fz 1) (aE (cst (.int 0)) (aE (opF pIxC (aS 1 (aE (cst (.int 0)) aN))) (aE (cst (.int 0)) (aE (fz 3) aN)))))))])
noncomputable def F_law_source : List D → Rc := runP 4 f_law_source
noncomputable def f_law_draw : Sx → Rs := (blk [(asgZ 2 (ixC 0 (aE (cst (.int 0)) aN) (opF pIxC (aS 0 (aE (cst (.int 0)) aN))))),
  (asgZ 3 (ixC 0 (aE (cst (.int 1)) aN) (opF pIxC (aS 0 (aE (cst (.int 1)) aN))))),
  (asgZ 4 (ixC 0 (aE (cst (.int 2)) aN) (opF pIxC (aS 0 (aE (cst (.int 2)) aN))))),
  (asgZ 5 (ixC 0 (aE (cst (.int 3)) aN) (opF pIxC (aS 0 (aE (cst (.int 3)) aN))))),
  (stC 0 (opF pAdd (aS 5 (aE (cst (.int 1)) aN))) (aE (cst (.int 3)) aN)),
  (ifF (wAnd (tOpF pEq (aE (ixC 0 (aE (cst (.int 4)) aN) (opF pIxC (aS 0 (aE (cst (.int 4)) aN)))) (aE (cst (.int 0)) aN))) (tOpF pLt (aS 3 (aE (opF pLenC (aS 2 aN)) aN)))) (blk [(stC 0 (opF pFdiv (aS 4 (aS 1 aN))) (aE (cst (.int 2)) aN)),
  (ifF (tOpF pEq (aE (ixC 0 (aE (cst (.int 2)) aN) (opF pIxC (aS 0 (aE (cst (.int 2)) aN)))) (aE (cst (.int 0)) aN))) (blk [(stC 0 (opF pAdd (aS 3 (aE (cst (.int 1)) aN))) (aE (cst (.int 1)) aN)),
  (ifF (tOpF pLt (aE (opF pAdd (aS 3 (aE (cst (.int 1)) aN))) (aE (opF pLenC (aS 2 aN)) aN))) (blk [(stC 0 (opF pIxC (aS 2 (aE (opF pAdd (aS 3 (aE (cst (.int 1)) aN))) aN))) (aE (cst (.int 2)) aN))]) (blk []))]) (blk [])),
  (retF (opF pMod (aE (opF pInt (aS 4 aN)) (aS 1 aN))))]) (blk [])),
  (asgZ 6 (opF pAdd (aE (opF pAdd (aE (opF pIxC (aS 2 (aE (opF pMod (aE (opF pInt (aS 5 aN)) (aE (opF pLenC (aS 2 aN)) aN))) aN))) (aE (opF pMulS (aE (cst (.int 13)) (aS 5 aN))) aN))) (aE (cst (.int 7)) aN)))),
  (asgZ 7 (opF pMod (aE (opF pInt (aE (opF pAdd (aE (opF pMulS (aS 6 (aE (cst (.int 48271)) aN))) (aE (opF pMulS (aE (opF pAdd (aS 5 (aE (cst (.int 1)) aN))) (aE (cst (.int 69621)) aN))) aN))) aN)) (aE (cst (.int 2147483647)) aN)))),
  (asgZ 7 (opF pMod (aE (opF pInt (aE (opF pAdd (aE (opF pMulS (aS 7 (aE (opF pAdd (aE (opF pAdd (aE (opF pMod (aE (opF pInt (aS 7 aN)) (aE (cst (.int 46337)) aN))) (aS 5 aN))) (aE (cst (.int 3)) aN))) aN))) (aS 6 aN))) aN)) (aE (cst (.int 2147483629)) aN)))),
  (retF (opF pMod (aE (opF pInt (aE (opF pFdiv (aS 7 (aE (cst (.int 11)) aN))) aN)) (aS 1 aN))))])
noncomputable def F_law_draw : Cell → List D → RcM := runM 8 f_law_draw
noncomputable def e_law_plain_0 (self_ : List D → Rc) : Sx → Re Sl := (callP 1 self_ (aS 1 aN))
noncomputable def f_law_plain (self_ : List D → Rc) : Sx → Rs := (blk [(ifF (tVal (opF pIsi (aS 0 (aE (opF pTup (aE (cst (.raw (.ty "list"))) (aE (cst (.raw (.ty "tuple"))) aN))) aN)))) (blk [(retF (opF pTup (aE (opF pIsi (aS 0 (aE (cst (.raw (.ty "list"))) aN))) (aE (lcF [1] (tgN 1) (itW (fz 0)) none (e_law_plain_0 self_)) aN))))]) (blk [])),
  (retF (opF pTup (aE (opF pIsi (aS 0 (aE (cst (.raw (.ty "bool"))) aN))) (aE (fz 0) aN))))])
noncomputable def F_law_plain : Nat → List D → Rc
  | 0 => fun _ => .no
  | n + 1 => runP 2 (f_law_plain (F_law_plain n))
noncomputable def b_law_table_0 : Sx → Rs := (blk [(asgZ 4 (cst (.int 0))),
  (ifF (tOpF pInC (aE (opF pIxC (aS 0 (aS 3 aN))) (aS 1 aN))) (blk [(asgZ 4 (cst (.int 2)))]) (blk [])),
  (ifF (tOpF pEq (aE (opF pSlFrS (aE (opF pIxC (aS 0 (aS 3 aN))) (aE (opF pNeg (aE (cst (.int 6)) aN)) aN))) (aE (cst (.str " short")) aN))) (blk [(asgZ 4 (cst (.int 1)))]) (blk [])),
  (exF (appF 2 (aE (opF pTup (aE (opF pIxC (aS 0 (aS 3 aN))) (aE (opF pAdd (aS 3 (aE (cst (.int 1)) aN))) (aE (fz 4) aN)))) aN)))])
noncomputable def f_law_table : Sx → Rs := (blk [(asgZ 0 (opF pLst (aE (cst (.str "push")) (aE (cst (.str "dup")) (aE (cst (.str "drop")) (aE (cst (.str "swap")) (aE (cst (.str "over")) (aE (cst (.str "add")) (aE (cst (.str "sub")) (aE (cst (.str "mul")) (aE (cst (.str "less")) (aE (cst (.str "same")) (aE (cst (.str "load")) (aE (cst (.str "store")) (aE (cst (.str "go short")) aN))))))))))))))),
  (asgZ 0 (opF pAdd (aS 0 (aE (opF pLst (aE (cst (.str "go wide")) (aE (cst (.str "unless short")) (aE (cst (.str "unless wide")) (aE (cst (.str "call short")) (aE (cst (.str "call wide")) (aE (cst (.str "ret")) (aE (cst (.str "out")) (aE (cst (.str "ask")) (aE (cst (.str "far")) aN)))))))))) aN)))),
  (asgZ 0 (opF pAdd (aS 0 (aE (opF pLst (aE (cst (.str "bring")) (aE (cst (.str "save")) (aE (cst (.str "confirm")) (aE (cst (.str "halt")) (aE (cst (.str "hop")) aN)))))) aN)))),
  (asgZ 1 (opF pLst (aE (cst (.str "push")) (aE (cst (.str "go wide")) (aE (cst (.str "unless wide")) (aE (cst (.str "call wide")) (aE (cst (.str "far")) (aE (cst (.str "bring")) (aE (cst (.str "hop")) aN))))))))),
  (asgF 2 (opF pLst aN)),
  (forF (tgN 3) (rg1F (aE (cst (.int 27)) aN)) (b_law_table_0)),
  (retF (mv 2))])
noncomputable def F_law_table : List D → Rc := runP 5 f_law_table
noncomputable def f_law_due : Sx → Rs := (blk [(ifF (tOpF pEq (aS 1 (aE (cst (.int 0)) aN))) (blk [(retF (opF pTup (aE (opF pMulS (aE (cst (.int 256)) (aS 0 aN))) aN)))]) (blk [])),
  (ifF (tOpF pEq (aS 1 (aE (cst (.int 1)) aN))) (blk [(retF (opF pTup (aE (opF pAdd (aE (opF pMulS (aE (cst (.int 256)) (aS 0 aN))) (aE (opF pMod (aE (opF pInt (aS 2 aN)) (aE (cst (.int 256)) aN))) aN))) aN)))]) (blk [])),
  (retF (opF pTup (aE (opF pMulS (aE (cst (.int 256)) (aS 0 aN))) (aE (fz 2) aN))))])
noncomputable def F_law_due : List D → Rc := runP 3 f_law_due
noncomputable def f_is_word : Sx → Rs := (blk [(retF (eAnd (callP 1 F_is_number (aS 0 aN)) (chF pLe pLe (aE (cst (.int 0)) (aE (fz 0) aN)) (aE (cst (.int 65535)) aN))))])
noncomputable def F_is_word : List D → Rc := runP 1 f_is_word
noncomputable def f_decoded : Sx → Rs := (blk [(ifF (tOpF pEq (aE (opF pLenC (aS 0 aN)) (aE (cst (.int 0)) aN))) (blk [(retF (cst .non))]) (blk [])),
  (asgZ 1 (callP 1 F_instruction_of (aE (opF pFdiv (aE (opF pIxC (aS 0 (aE (cst (.int 0)) aN))) (aE (cst (.int 256)) aN))) aN))),
  (ifF (tOpF pIs (aS 1 (aE (cst .non) aN))) (blk [(retF (cst .non))]) (blk [])),
  (asgZ 2 (opF pMod (aE (opF pInt (aE (opF pIxC (aS 0 (aE (cst (.int 0)) aN))) aN)) (aE (cst (.int 256)) aN)))),
  (ifF (tOpF pInC (aS 1 (aE (cst (.tup [(.str "go short"), (.str "unless short"), (.str "call short")])) aN))) (blk [(retF (opF pTup (aE (fz 1) (aE (opF pTup (aE (eIf (tOpF pGt (aS 2 (aE (cst (.int 127)) aN))) (opF pSub (aS 2 (aE (cst (.int 256)) aN))) (fz 2)) aN)) aN))))]) (blk [])),
  (ifF (tOpF pNe (aS 2 (aE (cst (.int 0)) aN))) (blk [(retF (cst .non))]) (blk [])),
  (ifF (tOpF pNinS (aS 1 (aE (cst (.tup [(.str "push"), (.str "go wide"), (.str "unless wide"), (.str "call wide"), (.str "far"), (.str "bring"), (.str "hop")])) aN))) (blk [(retF (opF pTup (aE (fz 1) (aE (opF pTup aN) aN))))]) (blk [])),
  (ifF (tOpF pLt (aE (opF pLenC (aS 0 aN)) (aE (cst (.int 2)) aN))) (blk [(retF (cst .non))]) (blk [])),
  (retF (opF pTup (aE (fz 1) (aE (opF pTup (aE (opF pIxC (aS 0 (aE (cst (.int 1)) aN))) aN)) aN))))])
noncomputable def F_decoded : List D → Rc := runP 3 f_decoded
noncomputable def f_law_word : Sx → Rs := (blk [(asgZ 1 (callM 2 F_law_draw 0 (aE (cst (.int 4)) aN))),
  (ifF (tOpF pLt (aS 1 (aE (cst (.int 2)) aN))) (blk [(retF (callM 2 F_law_draw 0 (aE (cst (.int 10)) aN)))]) (blk [])),
  (ifF (tOpF pEq (aS 1 (aE (cst (.int 2)) aN))) (blk [(retF (callM 2 F_law_draw 0 (aE (cst (.int 65536)) aN)))]) (blk [])),
  (retF (opF pSub (aE (cst (.int 65535)) (aE (callM 2 F_law_draw 0 (aE (cst (.int 3)) aN)) aN))))])
noncomputable def F_law_word : Cell → List D → RcM := runM 2 f_law_word
noncomputable def f_law_misfits : Sx → Rs := (blk [(asgZ 2 (callM 2 F_law_draw 0 (aE (cst (.int 70000)) aN))),
  (ifF (tOpF pEq (aS 1 (aE (cst (.int 1)) aN))) (blk [(retF (opF pLst (aE (opF pNeg (aE (cst (.int 129)) aN)) (aE (cst (.int 128)) (aE (opF pSub (aE (opF pNeg (aE (cst (.int 129)) aN)) (aS 2 aN))) (aE (opF pAdd (aE (cst (.int 128)) (aS 2 aN))) (aE (cst (.bl true)) (aE (cst (.bl false)) (aE (cst (.str "0")) (aE (cst .non) aN))))))))))]) (blk [])),
  (retF (opF pLst (aE (opF pNeg (aE (cst (.int 1)) aN)) (aE (cst (.int 65536)) (aE (opF pSub (aE (opF pNeg (aE (cst (.int 1)) aN)) (aS 2 aN))) (aE (opF pAdd (aE (cst (.int 65536)) (aS 2 aN))) (aE (cst (.bl true)) (aE (cst (.bl false)) (aE (cst (.str "5")) (aE (cst .non) aN))))))))))])
noncomputable def F_law_misfits : Cell → List D → RcM := runM 3 f_law_misfits
noncomputable def f_code_words : Sx → Rs := (blk [(ifF (wOr (tNot (tVal (opF pIsi (aS 0 (aE (cst (.raw (.ty "str"))) aN))))) (tOpF (pNinG 2000 ks_NUMBERS ds_NUMBERS) (aS 0 (aE (cst (.raw (.ref (CA.at_ 2000)))) aN)))) (blk [(rsF 1 "place" (aE (cst (.int 0)) aN))]) (blk [])),
  (asgZ 2 (eOr (opF pInC (aS 0 (aE (cst (.tup [(.str "go short"), (.str "unless short"), (.str "call short")])) aN))) (opF pInC (aS 0 (aE (cst (.tup [(.str "push"), (.str "go wide"), (.str "unless wide"), (.str "call wide"), (.str "far"), (.str "bring"), (.str "hop")])) aN))))),
  (ifF (tOpF pNe (aE (opF pLenC (aS 1 aN)) (aE (eIf (tTru truD (aS 2 aN)) (cst (.int 1)) (cst (.int 0))) aN))) (blk [(rsF 1 "place" (aE (cst (.int 0)) aN))]) (blk [])),
  (asgZ 3 (opF pMulS (aE (cst (.int 256)) (aE (opF (pIxG 2000 ks_NUMBERS ds_NUMBERS) (aE (cst (.raw (.ref (CA.at_ 2000)))) (aS 0 aN))) aN)))),
  (ifF (tNot (tTru truD (aS 2 aN))) (blk [(retF (opF pTup (aE (fz 3) aN)))]) (blk [])),
  (asgZ 4 (opF pIxC (aS 1 (aE (cst (.int 0)) aN)))),
  (ifF (tOpF pInC (aS 0 (aE (cst (.tup [(.str "go short"), (.str "unless short"), (.str "call short")])) aN))) (blk [(ifF (wOr (tNot (tTru truD (aE (callP 1 F_is_number (aS 4 aN)) aN))) (tNot (tVal (chF pLe pLe (aE (opF pNeg (aE (cst (.int 128)) aN)) (aE (fz 4) aN)) (aE (cst (.int 127)) aN))))) (blk [(rsF 1 "place" (aE (cst (.int 1)) aN))]) (blk [])),
  (retF (opF pTup (aE (opF pAdd (aS 3 (aE (opF pMod (aE (opF pInt (aS 4 aN)) (aE (cst (.int 256)) aN))) aN))) aN)))]) (blk [])),
  (ifF (tNot (tTru truD (aE (callP 1 F_is_word (aS 4 aN)) aN))) (blk [(rsF 1 "place" (aE (cst (.int 1)) aN))]) (blk [])),
  (retF (opF pTup (aE (fz 3) (aE (fz 4) aN))))])
noncomputable def F_code_words : List D → Rc := runP 5 f_code_words
noncomputable def b_law_first_words_0 : Sx → Rs := (blk [(asgZ 8 (callP 1 F_decoded (aE (opF pTup (aE (opF pAdd (aE (opF pMulS (aE (cst (.int 256)) (aS 4 aN))) (aS 7 aN))) (aE (fz 3) aN))) aN))),
  (asgZ 9 (opF pTup (aE (fz 5) (aE (opF pTup aN) aN)))),
  (ifF (tOpF pEq (aS 6 (aE (cst (.int 1)) aN))) (blk [(asgZ 9 (opF pTup (aE (fz 5) (aE (opF pTup (aE (opF pSub (aS 7 (aE (opF pMulS (aE (cst (.int 256)) (aE (opF pInt (aE (opF pGt (aS 7 (aE (cst (.int 127)) aN))) aN)) aN))) aN))) aN)) aN))))]) (blk [])),
  (ifF (tOpF pEq (aS 6 (aE (cst (.int 2)) aN))) (blk [(asgZ 9 (opF pTup (aE (fz 5) (aE (opF pTup (aE (fz 3) aN)) aN))))]) (blk [])),
  (ifF (wOr (tOpF pEq (aS 5 (aE (cst (.str "")) aN))) (wAnd (tOpF pNe (aS 6 (aE (cst (.int 1)) aN))) (tOpF pNe (aS 7 (aE (cst (.int 0)) aN))))) (blk [(ifF (tOpF pIsnot (aS 8 (aE (cst .non) aN))) (blk [(retF (cst (.bl false)))]) (blk []))]) (blk [(ifF (tOpF pNe (aE (callP 1 (F_law_plain 12) (aS 8 aN)) (aE (callP 1 (F_law_plain 12) (aS 9 aN)) aN))) (blk [(retF (cst (.bl false)))]) (blk []))]))])
noncomputable def b_law_first_words_1 : Sx → Rs := (blk [(asgZ 5 (cst (.str ""))),
  (asgZ 6 (cst (.int 0))),
  (ifF (wAnd (tOpF pLt (aE (cst (.int 0)) (aS 4 aN))) (tOpF pLt (aS 4 (aE (cst (.int 28)) aN)))) (blk [(asgZ 5 (opF pIxC (aE (opF pIxC (aS 1 (aE (opF pSub (aS 4 (aE (cst (.int 1)) aN))) aN))) (aE (cst (.int 0)) aN)))),
  (asgZ 6 (opF pIxC (aE (opF pIxC (aS 1 (aE (opF pSub (aS 4 (aE (cst (.int 1)) aN))) aN))) (aE (cst (.int 2)) aN))))]) (blk [])),
  (forF (tgN 7) (itF (opF pTup (aE (cst (.int 0)) (aE (fz 2) aN)))) (b_law_first_words_0))])
noncomputable def f_law_first_words : Sx → Rs := (blk [(ifF (tOpF pIsnot (aE (callP 1 F_decoded (aE (opF pTup aN) aN)) (aE (cst .non) aN))) (blk [(retF (cst (.bl false)))]) (blk [])),
  (asgZ 2 (opF pAdd (aE (cst (.int 1)) (aE (callM 2 F_law_draw 0 (aE (cst (.int 255)) aN)) aN)))),
  (asgZ 3 (callM 1 F_law_word 0 aN)),
  (forF (tgN 4) (rg1F (aE (cst (.int 256)) aN)) (b_law_first_words_1)),
  (retF (cst (.bl true)))])
noncomputable def F_law_first_words : Cell → List D → RcM := runM 10 f_law_first_words
noncomputable def e_law_there_and_back_0 : Sx → Re Sl := (callM 1 F_law_word 0 aN)
noncomputable def b_law_there_and_back_1 : Sx → Rs := (blk [(asgZ 8 (callP 3 F_law_due (aS 2 (aS 3 (aS 7 aN))))),
  (asgZ 9 (opF pTup (aE (fz 1) (aE (opF pTup (aE (fz 7) aN)) aN)))),
  (ifF (tOpF pEq (aS 3 (aE (cst (.int 0)) aN))) (blk [(asgZ 10 (callP 1 (starP 1 F_code_words) (aS 1 aN))),
  (asgZ 9 (opF pTup (aE (fz 1) (aE (opF pTup aN) aN))))]) (blk [(asgZ 10 (callP 2 (starP 1 F_code_words) (aS 1 (aS 7 aN))))])),
  (ifF (tOpF pNe (aE (callP 1 (F_law_plain 12) (aS 10 aN)) (aE (callP 1 (F_law_plain 12) (aS 8 aN)) aN))) (blk [(retF (cst (.bl false)))]) (blk [])),
  (ifF (wOr (tOpF pNe (aE (callP 1 (F_law_plain 12) (aE (callP 1 F_decoded (aS 8 aN)) aN)) (aE (callP 1 (F_law_plain 12) (aS 9 aN)) aN))) (tOpF pNe (aE (callP 1 (F_law_plain 12) (aE (callP 1 F_decoded (aE (opF pAdd (aS 8 (aS 5 aN))) aN)) aN)) (aE (callP 1 (F_law_plain 12) (aS 9 aN)) aN)))) (blk [(retF (cst (.bl false)))]) (blk [])),
  (ifF (wAnd (tOpF pEq (aS 3 (aE (cst (.int 2)) aN))) (tOpF pIsnot (aE (callP 1 F_decoded (aE (opF pSlToS (aS 8 (aE (cst (.int 1)) aN))) aN)) (aE (cst .non) aN)))) (blk [(retF (cst (.bl false)))]) (blk []))])
noncomputable def f_law_there_and_back : Sx → Rs := (blk [(asgZ 4 (opF pLst (aE (cst (.int 0)) aN))),
  (ifF (tOpF pEq (aS 3 (aE (cst (.int 1)) aN))) (blk [(asgZ 4 (opF pLst (aE (opF pNeg (aE (cst (.int 128)) aN)) (aE (opF pNeg (aE (cst (.int 1)) aN)) (aE (cst (.int 0)) (aE (cst (.int 127)) (aE (opF pSub (aE (callM 2 F_law_draw 0 (aE (cst (.int 256)) aN)) (aE (cst (.int 128)) aN))) aN)))))))]) (blk [])),
  (ifF (tOpF pEq (aS 3 (aE (cst (.int 2)) aN))) (blk [(asgZ 4 (opF pLst (aE (cst (.int 0)) (aE (cst (.int 65535)) (aE (callM 1 F_law_word 0 aN) aN)))))]) (blk [])),
  (asgZ 5 (opF pTuple (aE (lcF [6] (tgN 6) (rg1F (aE (callM 2 F_law_draw 0 (aE (cst (.int 3)) aN)) aN)) none (e_law_there_and_back_0)) aN))),
  (forF (tgN 7) (itF (fz 4)) (b_law_there_and_back_1)),
  (retF (cst (.bl true)))])
noncomputable def F_law_there_and_back : Cell → List D → RcM := runM 11 f_law_there_and_back
noncomputable def f_law_refused : Sx → Rs := (blk [(tryF sub_ (blk [(ifF (tOpF pEq (aE (opF pLenC (aS 1 aN)) (aE (cst (.int 0)) aN))) (blk [(exF (callP 1 (starP 1 F_code_words) (aS 0 aN)))]) (blk [(ifF (tOpF pEq (aE (opF pLenC (aS 1 aN)) (aE (cst (.int 1)) aN))) (blk [(exF (callP 2 (starP 1 F_code_words) (aS 0 (aE (opF pIxC (aS 1 (aE (cst (.int 0)) aN))) aN))))]) (blk [(exF (callP 3 (starP 1 F_code_words) (aS 0 (aE (opF pIxC (aS 1 (aE (cst (.int 0)) aN))) (aE (opF pIxC (aS 1 (aE (cst (.int 1)) aN))) aN)))))]))]))]) [(1, some 3, (blk [(retF (eAnd (opF pEq (aE (callP 1 (F_law_plain 12) (aE (xfF fo_ 3 "place") aN)) (aE (callP 1 (F_law_plain 12) (aS 2 aN)) aN))) (eAnd (isxF sub_ 3 0) (isxF sub_ 3 1000))))])), (0, none, (blk [(retF (cst (.bl false)))]))]),
  (retF (cst (.bl false)))])
noncomputable def F_law_refused : List D → Rc := runP 4 f_law_refused
noncomputable def b_law_0 : Sx → Rs := (blk [(ifF (tNot (tTru truD (aE (callM 4 F_law_there_and_back 1 (aE (fz 3) (aE (fz 4) (aE (fz 5) aN)))) aN))) (blk [(retF (cst (.bl false)))]) (blk []))])
noncomputable def b_law_1 : Sx → Rs := (blk [(ifF (tNot (tTru truD (aE (callP 3 F_law_refused (aS 3 (aS 8 (aE (cst (.int 0)) aN)))) aN))) (blk [(retF (cst (.bl false)))]) (blk []))])
noncomputable def b_law_2 : Sx → Rs := (blk [(forF (tgN 8) (itF (opF pLst (aE (opF pLst aN) (aE (opF pLst (aE (cst (.int 1)) aN)) (aE (opF pLst (aE (opF pNeg (aE (cst (.int 70000)) aN)) aN)) (aE (opF pLst (aE (cst (.int 1)) (aE (cst (.int 2)) aN))) aN)))))) (b_law_1))])
noncomputable def b_law_3 : Sx → Rs := (blk [(ifF (tNot (tTru truD (aE (callP 3 F_law_refused (aS 3 (aE (opF pLst (aE (fz 10) aN)) (aE (cst (.int 1)) aN)))) aN))) (blk [(retF (cst (.bl false)))]) (blk []))])
noncomputable def b_law_4 : Sx → Rs := (blk [(asgZ 9 (callM 1 F_law_word 1 aN)),
  (ifF (wOr (tNot (tTru truD (aE (callP 3 F_law_refused (aS 3 (aE (opF pLst (aE (fz 9) (aE (fz 9) aN))) (aE (cst (.int 0)) aN)))) aN))) (tNot (tTru truD (aE (callP 3 F_law_refused (aS 3 (aE (opF pLst (aE (opF pNeg (aE (cst (.int 70000)) aN)) (aE (fz 9) aN))) (aE (cst (.int 0)) aN)))) aN)))) (blk [(retF (cst (.bl false)))]) (blk [])),
  (ifF (wAnd (tOpF pEq (aS 5 (aE (cst (.int 0)) aN))) (wOr (tNot (tTru truD (aE (callP 3 F_law_refused (aS 3 (aE (opF pLst (aE (fz 9) aN)) (aE (cst (.int 0)) aN)))) aN))) (tNot (tTru truD (aE (callP 3 F_law_refused (aS 3 (aE (opF pLst (aE (opF pNeg (aE (cst (.int 70000)) aN)) aN)) (aE (cst (.int 0)) aN)))) aN))))) (blk [(retF (cst (.bl false)))]) (blk [])),
  (ifF (wAnd (tOpF pNe (aS 5 (aE (cst (.int 0)) aN))) (tNot (tTru truD (aE (callP 3 F_law_refused (aS 3 (aE (opF pLst aN) (aE (cst (.int 0)) aN)))) aN)))) (blk [(retF (cst (.bl false)))]) (blk [])),
  (ifF (tOpF pNe (aS 5 (aE (cst (.int 0)) aN))) (blk [(forF (tgN 10) (itF (callM 2 F_law_misfits 1 (aE (fz 5) aN))) (b_law_3))]) (blk []))])
noncomputable def f_law : Sx → Rs := (blk [(asgF 1 (callP 1 F_law_source (aS 0 aN))),
  (asgZ 2 (callP 0 F_law_table aN)),
  (forF (tgT (tgsC (tgN 3) (tgsC (tgN 4) (tgsC (tgN 5) tgsN)))) (itF (fz 2)) (b_law_0)),
  (ifF (tNot (tTru truD (aE (callM 2 F_law_first_words 1 (aE (fz 2) aN)) aN))) (blk [(retF (cst (.bl false)))]) (blk [])),
  (asgZ 6 (opF pIxC (aE (opF pIxC (aS 2 (aE (callM 2 F_law_draw 1 (aE (cst (.int 27)) aN)) aN))) (aE (cst (.int 0)) aN)))),
  (asgZ 7 (opF pLst (aE (cst (.str "name")) (aE (cst (.str "go")) (aE (cst (.str "unless")) (aE (cst (.str "call")) (aE (cst (.str "")) (aE (cst (.str "nop")) (aE (cst (.str "PUSH")) (aE (cst (.str "go  wide")) (aE (cst (.str "short go")) (aE (cst (.str "hop short")) (aE (cst (.int 5)) (aE (cst .non) aN)))))))))))))),
  (forF (tgN 3) (itF (opF pAdd (aS 7 (aE (opF pLst (aE (opF pAdd (aS 6 (aE (cst (.str "x")) aN))) aN)) aN)))) (b_law_2)),
  (forF (tgT (tgsC (tgN 3) (tgsC (tgN 4) (tgsC (tgN 5) tgsN)))) (itF (fz 2)) (b_law_4)),
  (retF (callM 4 F_law_there_and_back 1 (aE (cst (.str "halt")) (aE (cst (.int 26)) (aE (cst (.int 0)) aN)))))])
noncomputable def F_law : List D → Rc := runP 11 f_law
end
end K
namespace K
open PySem L2 Zd Zf
open PyProof.Rows (envOfC)
section
variable [CA] {P : Program} {w : World} {K : PySem.W.Frag} {mg : Str → Option Value} {base : Heap}
theorem ok_is_number {f : Addr} {fd : FuncData} (F : Fun K "is_number" "is_number" st_is_number f fd) (T : Txt K mg) : FnOk P w K mg base (L2N.CX P w) 1 f fd ["thing"] (spP K 1 (specP F_is_number)) := by
  have nd := sc_is_number.nd
  exact fnP F sc_is_number (by decide) (k := 0) fun π cdv A outer s H E Ξ hr =>
 (okB_cons (okS_ret (okE_and (okE_callB T.b_isinstance pIsi_ok (okA_slot .z (okA_cons (okE_bltn T.b_int) okA_nil))) (okE_one (okE_not (okA_cons (okE_callB T.b_isinstance pIsi_ok (okA_slot .z (okA_cons (okE_bltn T.b_bool) okA_nil))) okA_nil)))))
 okB_nil)
theorem ok_instruction_of {f : Addr} {fd : FuncData} (F : Fun K "instruction_of" "instruction_of" st_instruction_of f fd) (T : Txt K mg) (DX : DXs w K mg) : FnOk P w K mg base (L2N.CX P w) 1 f fd ["number"] (spP K 1 (specP F_instruction_of)) := by
  have nd := sc_instruction_of.nd
  exact fnP F sc_instruction_of (by decide) (k := 0) fun π cdv A outer s H E Ξ hr =>
 (okB_cons (okS_for (okG_pair (.s .z) (.s (.s .z)) nd rfl) (okI_itemsG DX.d_NUMBERS) (okB_cons (okS_if (okT_cmp (pEq_ok hr.units) (okA_slot (.s (.s .z)) (okA_slot .z okA_nil))) (okB_cons (okS_ret (okE_mv (.s .z)))
 okB_nil) okB_nil)
 okB_nil) passes_f rfl)
 (okB_cons (okS_ret okE_non)
 okB_nil))
theorem ok_law_source {f : Addr} {fd : FuncData} (F : Fun K "_law_source" "_law_source" st_law_source f fd) (T : Txt K mg) : FnOk P w K mg base (L2N.CX P w) 1 f fd ["script"] (spP K 1 (specP F_law_source)) := by
  have nd := sc_law_source.nd
  exact fnP F sc_law_source (by decide) (k := 0) fun π cdv A outer s H E Ξ hr =>
 (okB_cons (by first | exact okS_asgLcZ (.s .z) nd rfl (own := [("cell", 2)]) (fun _ _ _ _ _ => (okG_name (.s (.s .z)) nd)) (okI_seq (okE_fz .z)) .nil (fun _ _ _ _ _ lv => (okE_callB T.b_abs pAbs_ok (okA_cons (okE_callT T.b_int pInt_ok (okA_slot (.s (.s .z)) okA_nil)) okA_nil))) | exact okS_asgZ (.s .z) nd (okE_lc (own := [("cell", 2)]) nd rfl (fun _ _ _ _ _ => (okG_name (.s (.s .z)) nd)) (okI_seq (okE_fz .z)) .nil (fun _ _ _ _ _ lv => (okE_callB T.b_abs pAbs_ok (okA_cons (okE_callT T.b_int pInt_ok (okA_slot (.s (.s .z)) okA_nil)) okA_nil)))))
 (okB_cons (okS_if (okT_cmp (pEq_ok hr.units) (okA_cons (okE_callB T.b_len pLenC_ok (okA_slot (.s .z) okA_nil)) (okA_cons okE_int okA_nil))) (okB_cons (okS_asgZ (.s .z) nd (okE_lst (okA_cons okE_int okA_nil)))
 okB_nil) okB_nil)
 (okB_cons (okS_asgZ (.s (.s (.s .z))) nd okE_int)
 (okB_cons (okS_if (okT_cmp pLt_ok (okA_cons (okE_ix (pIxC_ok hr.units) (okA_slot (.s .z) (okA_cons okE_int okA_nil))) (okA_cons (okE_bin pPow_ok (okA_cons okE_int (okA_cons okE_int okA_nil))) okA_nil))) (okB_cons (okS_asgZ (.s (.s (.s .z))) nd (okE_bin pMod_ok (okA_cons (okE_callT T.b_int pInt_ok (okA_cons (okE_ix (pIxC_ok hr.units) (okA_slot (.s .z) (okA_cons okE_int okA_nil))) okA_nil)) (okA_cons okE_int okA_nil))))
 okB_nil) okB_nil)
 (okB_cons (okS_ret (okE_lst (okA_cons (okE_fz (.s .z)) (okA_cons okE_int (okA_cons (okE_ix (pIxC_ok hr.units) (okA_slot (.s .z) (okA_cons okE_int okA_nil))) (okA_cons okE_int (okA_cons (okE_fz (.s (.s (.s .z)))) okA_nil)))))))
 okB_nil)))))
theorem ok_law_draw {f : Addr} {fd : FuncData} (F : Fun K "_law_draw" "_law_draw" st_law_draw f fd) (T : Txt K mg) : FnOk P w K mg base (L2N.CX P w) 1 f fd ["source", "below"] (spM K 2 (specM F_law_draw)) := by
  have nd := sc_law_draw.nd
  exact fnM F sc_law_draw (by decide) (k := 0) fun π cdv A outer s H E Ξ hr =>
 (okB_cons (okS_asgZ (.s (.s .z)) nd (okE_ixC hr.units .z (okA_cons okE_int okA_nil) (okE_ix (pIxC_ok hr.units) (okA_slot .z (okA_cons okE_int okA_nil)))))
 (okB_cons (okS_asgZ (.s (.s (.s .z))) nd (okE_ixC hr.units .z (okA_cons okE_int okA_nil) (okE_ix (pIxC_ok hr.units) (okA_slot .z (okA_cons okE_int okA_nil)))))
 (okB_cons (okS_asgZ (.s (.s (.s (.s .z)))) nd (okE_ixC hr.units .z (okA_cons okE_int okA_nil) (okE_ix (pIxC_ok hr.units) (okA_slot .z (okA_cons okE_int okA_nil)))))
 (okB_cons (okS_asgZ (.s (.s (.s (.s (.s .z))))) nd (okE_ixC hr.units .z (okA_cons okE_int okA_nil) (okE_ix (pIxC_ok hr.units) (okA_slot .z (okA_cons okE_int okA_nil)))))
 (okB_cons (okS_stC hr.units .z (okE_bin pAdd_ok (okA_slot (.s (.s (.s (.s (.s .z))))) (okA_cons okE_int okA_nil))) (okA_cons okE_int okA_nil))
 (okB_cons (okS_if (okT_bool (okW_and (okT_cmp (pEq_ok hr.units) (okA_cons (okE_ixC hr.units .z (okA_cons okE_int okA_nil) (okE_ix (pIxC_ok hr.units) (okA_slot .z (okA_cons okE_int okA_nil)))) (okA_cons okE_int okA_nil))) (okW_and1 (okT_cmp pLt_ok (okA_slot (.s (.s (.s .z))) (okA_cons (okE_callB T.b_len pLenC_ok (okA_slot (.s (.s .z)) okA_nil)) okA_nil)))))) (okB_cons (okS_stC hr.units .z (okE_bin pFdiv_ok (okA_slot (.s (.s (.s (.s .z)))) (okA_slot (.s .z) okA_nil))) (okA_cons okE_int okA_nil))
 (okB_cons (okS_if (okT_cmp (pEq_ok hr.units) (okA_cons (okE_ixC hr.units .z (okA_cons okE_int okA_nil) (okE_ix (pIxC_ok hr.units) (okA_slot .z (okA_cons okE_int okA_nil)))) (okA_cons okE_int okA_nil))) (okB_cons (okS_stC hr.units .z (okE_bin pAdd_ok (okA_slot (.s (.s (.s .z))) (okA_cons okE_int okA_nil))) (okA_cons okE_int okA_nil))
 (okB_cons (okS_if (okT_cmp pLt_ok (okA_cons (okE_bin pAdd_ok (okA_slot (.s (.s (.s .z))) (okA_cons okE_int okA_nil))) (okA_cons (okE_callB T.b_len pLenC_ok (okA_slot (.s (.s .z)) okA_nil)) okA_nil))) (okB_cons (okS_stC hr.units .z (okE_ix (pIxC_ok hr.units) (okA_slot (.s (.s .z)) (okA_cons (okE_bin pAdd_ok (okA_slot (.s (.s (.s .z))) (okA_cons okE_int okA_nil))) okA_nil))) (okA_cons okE_int okA_nil))
 okB_nil) okB_nil)
 okB_nil)) okB_nil)
 (okB_cons (okS_ret (okE_bin pMod_ok (okA_cons (okE_callT T.b_int pInt_ok (okA_slot (.s (.s (.s (.s .z)))) okA_nil)) (okA_slot (.s .z) okA_nil))))
 okB_nil))) okB_nil)
 (okB_cons (okS_asgZ (.s (.s (.s (.s (.s (.s .z)))))) nd (okE_bin pAdd_ok (okA_cons (okE_bin pAdd_ok (okA_cons (okE_ix (pIxC_ok hr.units) (okA_slot (.s (.s .z)) (okA_cons (okE_bin pMod_ok (okA_cons (okE_callT T.b_int pInt_ok (okA_slot (.s (.s (.s (.s (.s .z))))) okA_nil)) (okA_cons (okE_callB T.b_len pLenC_ok (okA_slot (.s (.s .z)) okA_nil)) okA_nil))) okA_nil))) (okA_cons (okE_bin pMulS_ok (okA_cons okE_int (okA_slot (.s (.s (.s (.s (.s .z))))) okA_nil))) okA_nil))) (okA_cons okE_int okA_nil))))
 (okB_cons (okS_asgZ (.s (.s (.s (.s (.s (.s (.s .z))))))) nd (okE_bin pMod_ok (okA_cons (okE_callT T.b_int pInt_ok (okA_cons (okE_bin pAdd_ok (okA_cons (okE_bin pMulS_ok (okA_slot (.s (.s (.s (.s (.s (.s .z)))))) (okA_cons okE_int okA_nil))) (okA_cons (okE_bin pMulS_ok (okA_cons (okE_bin pAdd_ok (okA_slot (.s (.s (.s (.s (.s .z))))) (okA_cons okE_int okA_nil))) (okA_cons okE_int okA_nil))) okA_nil))) okA_nil)) (okA_cons okE_int okA_nil))))
 (okB_cons (okS_asgZ (.s (.s (.s (.s (.s (.s (.s .z))))))) nd (okE_bin pMod_ok (okA_cons (okE_callT T.b_int pInt_ok (okA_cons (okE_bin pAdd_ok (okA_cons (okE_bin pMulS_ok (okA_slot (.s (.s (.s (.s (.s (.s (.s .z))))))) (okA_cons (okE_bin pAdd_ok (okA_cons (okE_bin pAdd_ok (okA_cons (okE_bin pMod_ok (okA_cons (okE_callT T.b_int pInt_ok (okA_slot (.s (.s (.s (.s (.s (.s (.s .z))))))) okA_nil)) (okA_cons okE_int okA_nil))) (okA_slot (.s (.s (.s (.s (.s .z))))) okA_nil))) (okA_cons okE_int okA_nil))) okA_nil))) (okA_slot (.s (.s (.s (.s (.s (.s .z)))))) okA_nil))) okA_nil)) (okA_cons okE_int okA_nil))))
 (okB_cons (okS_ret (okE_bin pMod_ok (okA_cons (okE_callT T.b_int pInt_ok (okA_cons (okE_bin pFdiv_ok (okA_slot (.s (.s (.s (.s (.s (.s (.s .z))))))) (okA_cons okE_int okA_nil))) okA_nil)) (okA_slot (.s .z) okA_nil))))
 okB_nil))))))))))
theorem ok_law_plain {f : Addr} {fd : FuncData} (F : Fun K "_law_plain" "_law_plain" st_law_plain f fd) (T : Txt K mg) (hm : mg "_law_plain" = some (.ref f)) (hk : PySem.W.keepIn K (.ref f) = true) (hb : Binds K fd ["thing"] []) (n : Nat) : FnOk P w K mg base (L2N.CX P w) (n + 1) f fd ["thing"] (spP K 1 (specP (F_law_plain n))) := by
  have nd := sc_law_plain.nd
  induction n with
  | zero => exact fnP0
  | succ n ih =>
    have C_law_plain : CalP P w K mg base (n + 1) "_law_plain" 1 (specP (F_law_plain n)) := ⟨⟨f, fd, _, ih, rfl, hm, hk, hb⟩⟩
    rw [show n + 1 + 1 = (n + 1) + 1 by omega]
    exact fnP F sc_law_plain (by decide) (k := n + 1) fun π cdv A outer s H E Ξ hr =>
 (okB_cons (okS_if (okT_val (okE_callB T.b_isinstance pIsi_ok (okA_slot .z (okA_cons (okE_tup (okA_cons (okE_bltn T.b_list) (okA_cons (okE_bltn T.b_tuple) okA_nil))) okA_nil)))) (okB_cons (okS_ret (okE_tup (okA_cons (okE_callB T.b_isinstance pIsi_ok (okA_slot .z (okA_cons (okE_bltn T.b_list) okA_nil))) (okA_cons (okE_lc (own := [("one", 1)]) nd rfl (fun _ _ _ _ _ => (okG_name (.s .z) nd)) (okI_W (okE_fz .z)) .nil (fun _ _ _ _ _ lv => (okE_callP C_law_plain hr (Nat.le_refl _) takesN (okA_slot (.s .z) okA_nil)))) okA_nil))))
 okB_nil) okB_nil)
 (okB_cons (okS_ret (okE_tup (okA_cons (okE_callB T.b_isinstance pIsi_ok (okA_slot .z (okA_cons (okE_bltn T.b_bool) okA_nil))) (okA_cons (okE_fz .z) okA_nil))))
 okB_nil))
theorem okh_law_plain {f : Addr} {fd : FuncData} (F : Fun K "_law_plain" "_law_plain" st_law_plain f fd) (T : Txt K mg) (hm : mg "_law_plain" = some (.ref f)) (hk : PySem.W.keepIn K (.ref f) = true) (hb : Binds K fd ["thing"] []) (n : Nat) : L2H.FnH P w K mg base (L2N.CX P w) (n + 1) f fd ["thing"] (spP K 1 (specP (F_law_plain n))) := by
  have nd := sc_law_plain.nd
  induction n with
  | zero => exact fnPH0
  | succ n ih =>
    have CH_law_plain : CalH P w K mg base (n + 1) "_law_plain" 1 (specP (F_law_plain n)) := ⟨⟨f, fd, _, ih, rfl, hm, hk, hb⟩⟩
    rw [show n + 1 + 1 = (n + 1) + 1 by omega]
    exact fnPH F sc_law_plain (by decide) (k := n + 1) fun π cdv A outer s H E p Ξ hr hot =>
 (okB_cons (okS_if (okT_val (okE_callB T.b_isinstance pIsi_ok (okA_slot .z (okA_cons (okE_tup (okA_cons (okE_bltn T.b_list) (okA_cons (okE_bltn T.b_tuple) okA_nil))) okA_nil)))) (okB_cons (okS_ret (okE_tup (okA_cons (okE_callB T.b_isinstance pIsi_ok (okA_slot .z (okA_cons (okE_bltn T.b_list) okA_nil))) (okA_cons (okE_lcW (own := [("one", 1)]) nd hot (fun _ _ _ _ _ => (okG_name (.s .z) nd)) (okIW_W (okE_fz .z)) (fun _ _ _ _ _ lv => (okE_callH CH_law_plain hr (Nat.le_refl _) (hotB rfl lv) takesN (okA_slot (.s .z) okA_nil)))) okA_nil))))
 okB_nil) okB_nil)
 (okB_cons (okS_ret (okE_tup (okA_cons (okE_callB T.b_isinstance pIsi_ok (okA_slot .z (okA_cons (okE_bltn T.b_bool) okA_nil))) (okA_cons (okE_fz .z) okA_nil))))
 okB_nil))
theorem ok_law_table {f : Addr} {fd : FuncData} (F : Fun K "_law_table" "_law_table" st_law_table f fd) (T : Txt K mg) : FnOk P w K mg base (L2N.CX P w) 1 f fd [] (spP K 0 (specP F_law_table)) := by
  have nd := sc_law_table.nd
  exact fnP F sc_law_table (by decide) (k := 0) fun π cdv A outer s H E Ξ hr =>
 (okB_cons (okS_asgZ .z nd (okE_lst (okA_cons okE_str (okA_cons okE_str (okA_cons okE_str (okA_cons okE_str (okA_cons okE_str (okA_cons okE_str (okA_cons okE_str (okA_cons okE_str (okA_cons okE_str (okA_cons okE_str (okA_cons okE_str (okA_cons okE_str (okA_cons okE_str okA_nil)))))))))))))))
 (okB_cons (okS_asgZ .z nd (okE_bin pAdd_ok (okA_slot .z (okA_cons (okE_lst (okA_cons okE_str (okA_cons okE_str (okA_cons okE_str (okA_cons okE_str (okA_cons okE_str (okA_cons okE_str (okA_cons okE_str (okA_cons okE_str (okA_cons okE_str okA_nil)))))))))) okA_nil))))
 (okB_cons (okS_asgZ .z nd (okE_bin pAdd_ok (okA_slot .z (okA_cons (okE_lst (okA_cons okE_str (okA_cons okE_str (okA_cons okE_str (okA_cons okE_str (okA_cons okE_str okA_nil)))))) okA_nil))))
 (okB_cons (okS_asgZ (.s .z) nd (okE_lst (okA_cons okE_str (okA_cons okE_str (okA_cons okE_str (okA_cons okE_str (okA_cons okE_str (okA_cons okE_str (okA_cons okE_str okA_nil)))))))))
 (okB_cons (okS_asg (.s (.s .z)) nd (okE_lst okA_nil))
 (okB_cons (okS_for (okG_name (.s (.s (.s .z))) nd) (okI_rg1 T.b_range (okA_cons okE_int okA_nil)) (okB_cons (okS_asgZ (.s (.s (.s (.s .z)))) nd okE_int)
 (okB_cons (okS_if (okT_cmp (pInC_ok hr.units) (okA_cons (okE_ix (pIxC_ok hr.units) (okA_slot .z (okA_slot (.s (.s (.s .z))) okA_nil))) (okA_slot (.s .z) okA_nil))) (okB_cons (okS_asgZ (.s (.s (.s (.s .z)))) nd okE_int)
 okB_nil) okB_nil)
 (okB_cons (okS_if (okT_cmp (pEq_ok hr.units) (okA_cons (okE_slFr pSlFrS_ok (okA_cons (okE_ix (pIxC_ok hr.units) (okA_slot .z (okA_slot (.s (.s (.s .z))) okA_nil))) (okA_cons (okE_un pNeg_ok (okA_cons okE_int okA_nil)) okA_nil))) (okA_cons okE_str okA_nil))) (okB_cons (okS_asgZ (.s (.s (.s (.s .z)))) nd okE_int)
 okB_nil) okB_nil)
 (okB_cons (okS_expr (okE_app (.s (.s .z)) (okA_cons (okE_tup (okA_cons (okE_ix (pIxC_ok hr.units) (okA_slot .z (okA_slot (.s (.s (.s .z))) okA_nil))) (okA_cons (okE_bin pAdd_ok (okA_slot (.s (.s (.s .z))) (okA_cons okE_int okA_nil))) (okA_cons (okE_fz (.s (.s (.s (.s .z))))) okA_nil)))) okA_nil)))
 okB_nil)))) passes_f rfl)
 (okB_cons (okS_ret (okE_mv (.s (.s .z))))
 okB_nil)))))))
theorem ok_law_due {f : Addr} {fd : FuncData} (F : Fun K "_law_due" "_law_due" st_law_due f fd) (T : Txt K mg) : FnOk P w K mg base (L2N.CX P w) 1 f fd ["number", "form", "operand"] (spP K 3 (specP F_law_due)) := by
  have nd := sc_law_due.nd
  exact fnP F sc_law_due (by decide) (k := 0) fun π cdv A outer s H E Ξ hr =>
 (okB_cons (okS_if (okT_cmp (pEq_ok hr.units) (okA_slot (.s .z) (okA_cons okE_int okA_nil))) (okB_cons (okS_ret (okE_tup (okA_cons (okE_bin pMulS_ok (okA_cons okE_int (okA_slot .z okA_nil))) okA_nil)))
 okB_nil) okB_nil)
 (okB_cons (okS_if (okT_cmp (pEq_ok hr.units) (okA_slot (.s .z) (okA_cons okE_int okA_nil))) (okB_cons (okS_ret (okE_tup (okA_cons (okE_bin pAdd_ok (okA_cons (okE_bin pMulS_ok (okA_cons okE_int (okA_slot .z okA_nil))) (okA_cons (okE_bin pMod_ok (okA_cons (okE_callT T.b_int pInt_ok (okA_slot (.s (.s .z)) okA_nil)) (okA_cons okE_int okA_nil))) okA_nil))) okA_nil)))
 okB_nil) okB_nil)
 (okB_cons (okS_ret (okE_tup (okA_cons (okE_bin pMulS_ok (okA_cons okE_int (okA_slot .z okA_nil))) (okA_cons (okE_fz (.s (.s .z))) okA_nil))))
 okB_nil)))
theorem ok_is_word {f : Addr} {fd : FuncData} (F : Fun K "is_word" "is_word" st_is_word f fd) (T : Txt K mg) (C_is_number : CalP P w K mg base 1 "is_number" 1 (specP F_is_number)) : FnOk P w K mg base (L2N.CX P w) 2 f fd ["thing"] (spP K 1 (specP F_is_word)) := by
  have nd := sc_is_word.nd
  exact fnP F sc_is_word (by decide) (k := 1) fun π cdv A outer s H E Ξ hr =>
 (okB_cons (okS_ret (okE_and (okE_callP C_is_number hr (by decide) takes_f (okA_slot .z okA_nil)) (okE_one (okE_chain pLe_ok pLe_ok (okA_cons okE_int (okA_cons (okE_fz .z) okA_nil)) (okA_cons (okE_glob (gv_int T.g_BLANK)) okA_nil)))))
 okB_nil)
theorem ok_decoded {f : Addr} {fd : FuncData} (F : Fun K "decoded" "decoded" st_decoded f fd) (T : Txt K mg) (C_instruction_of : CalP P w K mg base 1 "instruction_of" 1 (specP F_instruction_of)) : FnOk P w K mg base (L2N.CX P w) 2 f fd ["words"] (spP K 1 (specP F_decoded)) := by
  have nd := sc_decoded.nd
  exact fnP F sc_decoded (by decide) (k := 1) fun π cdv A outer s H E Ξ hr =>
 (okB_cons (okS_if (okT_cmp (pEq_ok hr.units) (okA_cons (okE_callB T.b_len pLenC_ok (okA_slot .z okA_nil)) (okA_cons okE_int okA_nil))) (okB_cons (okS_ret okE_non)
 okB_nil) okB_nil)
 (okB_cons (okS_asgZ (.s .z) nd (okE_callP C_instruction_of hr (by decide) takes_f (okA_cons (okE_bin pFdiv_ok (okA_cons (okE_ix (pIxC_ok hr.units) (okA_slot .z (okA_cons okE_int okA_nil))) (okA_cons okE_int okA_nil))) okA_nil)))
 (okB_cons (okS_if (okT_cmp pIs_ok (okA_slot (.s .z) (okA_cons okE_non okA_nil))) (okB_cons (okS_ret okE_non)
 okB_nil) okB_nil)
 (okB_cons (okS_asgZ (.s (.s .z)) nd (okE_bin pMod_ok (okA_cons (okE_callT T.b_int pInt_ok (okA_cons (okE_ix (pIxC_ok hr.units) (okA_slot .z (okA_cons okE_int okA_nil))) okA_nil)) (okA_cons okE_int okA_nil))))
 (okB_cons (okS_if (okT_cmp (pInC_ok hr.units) (okA_slot (.s .z) (okA_cons (okE_glob (gv_con T.g_SHORT)) okA_nil))) (okB_cons (okS_ret (okE_tup (okA_cons (okE_fz (.s .z)) (okA_cons (okE_tup (okA_cons (okE_if (okT_cmp pGt_ok (okA_slot (.s (.s .z)) (okA_cons okE_int okA_nil))) (okE_bin pSub_ok (okA_slot (.s (.s .z)) (okA_cons okE_int okA_nil))) (okE_fz (.s (.s .z)))) okA_nil)) okA_nil))))
 okB_nil) okB_nil)
 (okB_cons (okS_if (okT_cmp (pNe_ok hr.units) (okA_slot (.s (.s .z)) (okA_cons okE_int okA_nil))) (okB_cons (okS_ret okE_non)
 okB_nil) okB_nil)
 (okB_cons (okS_if (okT_cmp (pNinS_ok hr.units) (okA_slot (.s .z) (okA_cons (okE_glob (gv_con T.g_TWO_WORDS)) okA_nil))) (okB_cons (okS_ret (okE_tup (okA_cons (okE_fz (.s .z)) (okA_cons (okE_tup okA_nil) okA_nil))))
 okB_nil) okB_nil)
 (okB_cons (okS_if (okT_cmp pLt_ok (okA_cons (okE_callB T.b_len pLenC_ok (okA_slot .z okA_nil)) (okA_cons okE_int okA_nil))) (okB_cons (okS_ret okE_non)
 okB_nil) okB_nil)
 (okB_cons (okS_ret (okE_tup (okA_cons (okE_fz (.s .z)) (okA_cons (okE_tup (okA_cons (okE_ix (pIxC_ok hr.units) (okA_slot .z (okA_cons okE_int okA_nil))) okA_nil)) okA_nil))))
 okB_nil)))))))))
theorem ok_law_word {f : Addr} {fd : FuncData} (F : Fun K "_law_word" "_law_word" st_law_word f fd) (T : Txt K mg) (C_law_draw : CalM P w K mg base 1 "_law_draw" 2 (specM F_law_draw)) : FnOk P w K mg base (L2N.CX P w) 2 f fd ["source"] (spM K 1 (specM F_law_word)) := by
  have nd := sc_law_word.nd
  exact fnM F sc_law_word (by decide) (k := 1) fun π cdv A outer s H E Ξ hr =>
 (okB_cons (okS_asgZ (.s .z) nd (okE_callM C_law_draw hr (by decide) takes_f .z (okA_cons okE_int okA_nil)))
 (okB_cons (okS_if (okT_cmp pLt_ok (okA_slot (.s .z) (okA_cons okE_int okA_nil))) (okB_cons (okS_ret (okE_callM C_law_draw hr (by decide) takes_f .z (okA_cons okE_int okA_nil)))
 okB_nil) okB_nil)
 (okB_cons (okS_if (okT_cmp (pEq_ok hr.units) (okA_slot (.s .z) (okA_cons okE_int okA_nil))) (okB_cons (okS_ret (okE_callM C_law_draw hr (by decide) takes_f .z (okA_cons okE_int okA_nil)))
 okB_nil) okB_nil)
 (okB_cons (okS_ret (okE_bin pSub_ok (okA_cons okE_int (okA_cons (okE_callM C_law_draw hr (by decide) takes_f .z (okA_cons okE_int okA_nil)) okA_nil))))
 okB_nil))))
theorem ok_law_misfits {f : Addr} {fd : FuncData} (F : Fun K "_law_misfits" "_law_misfits" st_law_misfits f fd) (T : Txt K mg) (C_law_draw : CalM P w K mg base 1 "_law_draw" 2 (specM F_law_draw)) : FnOk P w K mg base (L2N.CX P w) 2 f fd ["source", "form"] (spM K 2 (specM F_law_misfits)) := by
  have nd := sc_law_misfits.nd
  exact fnM F sc_law_misfits (by decide) (k := 1) fun π cdv A outer s H E Ξ hr =>
 (okB_cons (okS_asgZ (.s (.s .z)) nd (okE_callM C_law_draw hr (by decide) takes_f .z (okA_cons okE_int okA_nil)))
 (okB_cons (okS_if (okT_cmp (pEq_ok hr.units) (okA_slot (.s .z) (okA_cons okE_int okA_nil))) (okB_cons (okS_ret (okE_lst (okA_cons (okE_un pNeg_ok (okA_cons okE_int okA_nil)) (okA_cons okE_int (okA_cons (okE_bin pSub_ok (okA_cons (okE_un pNeg_ok (okA_cons okE_int okA_nil)) (okA_slot (.s (.s .z)) okA_nil))) (okA_cons (okE_bin pAdd_ok (okA_cons okE_int (okA_slot (.s (.s .z)) okA_nil))) (okA_cons okE_bl (okA_cons okE_bl (okA_cons okE_str (okA_cons okE_non okA_nil))))))))))
 okB_nil) okB_nil)
 (okB_cons (okS_ret (okE_lst (okA_cons (okE_un pNeg_ok (okA_cons okE_int okA_nil)) (okA_cons okE_int (okA_cons (okE_bin pSub_ok (okA_cons (okE_un pNeg_ok (okA_cons okE_int okA_nil)) (okA_slot (.s (.s .z)) okA_nil))) (okA_cons (okE_bin pAdd_ok (okA_cons okE_int (okA_slot (.s (.s .z)) okA_nil))) (okA_cons okE_bl (okA_cons okE_bl (okA_cons okE_str (okA_cons okE_non okA_nil))))))))))
 okB_nil)))
theorem ok_code_words {f : Addr} {fd : FuncData} (F : Fun K "code_words" "code_words" st_code_words f fd) (T : Txt K mg) (XX : XS P w K mg base 2 nm_ cv_ sub_ fo_) (DX : DXs w K mg) (C_is_number : CalP P w K mg base 1 "is_number" 1 (specP F_is_number)) (C_is_word : CalP P w K mg base 2 "is_word" 1 (specP F_is_word)) : FnR P w K mg base (L2N.CX P w) 3 f (spR K (starS 1 (specP F_code_words))) := by
  have nd := sc_code_words.nd
  exact fnV (ps := ["instruction"]) (pv := "operands") (n := 1) (k := 2) F sc_code_words rfl (by decide) (fun kV doc pm an cdv ct us rest hl => StX.bind_star1 (B := fun us => bindArgs (PySem.W.fnOf "code_words" "code_words" (defArgs st_code_words) (defBody st_code_words) (defScope st_code_words) .none kV doc pm an cdv ct) ⟨us, []⟩) (fun a0 => rfl) (fun a0 r rs => rfl) us rest hl) fun π cdv A outer s H E Ξ hr =>
 (okB_cons (okS_if (okT_bool (okW_or (okT_not (okT_val (okE_callB T.b_isinstance pIsi_ok (okA_slot .z (okA_cons (okE_bltn T.b_str) okA_nil))))) (okW_or1 (okT_cmp (pNinG_ok DX.d_NUMBERS) (okA_slot .z (okA_cons (okE_glob (gv_dic DX.d_NUMBERS)) okA_nil)))))) (okB_cons (okS_raise (c := 1) (XX.err 1 "place" rfl).1 hr (by decide) rfl takes_f (okA_cons okE_int okA_nil))
 okB_nil) okB_nil)
 (okB_cons (okS_asgZ (.s (.s .z)) nd (okE_or (okE_cmp (pInC_ok hr.units) (okA_slot .z (okA_cons (okE_glob (gv_con T.g_SHORT)) okA_nil))) (okE_one (okE_cmp (pInC_ok hr.units) (okA_slot .z (okA_cons (okE_glob (gv_con T.g_TWO_WORDS)) okA_nil))))))
 (okB_cons (okS_if (okT_cmp (pNe_ok hr.units) (okA_cons (okE_callB T.b_len pLenC_ok (okA_slot (.s .z) okA_nil)) (okA_cons (okE_if (okT_tru (okA_slot (.s (.s .z)) okA_nil)) okE_int okE_int) okA_nil))) (okB_cons (okS_raise (c := 1) (XX.err 1 "place" rfl).1 hr (by decide) rfl takes_f (okA_cons okE_int okA_nil))
 okB_nil) okB_nil)
 (okB_cons (okS_asgZ (.s (.s (.s .z))) nd (okE_bin pMulS_ok (okA_cons okE_int (okA_cons (okE_ix (pIxG_ok DX.d_NUMBERS) (okA_cons (okE_glob (gv_dic DX.d_NUMBERS)) (okA_slot .z okA_nil))) okA_nil))))
 (okB_cons (okS_if (okT_not (okT_tru (okA_slot (.s (.s .z)) okA_nil))) (okB_cons (okS_ret (okE_tup (okA_cons (okE_fz (.s (.s (.s .z)))) okA_nil)))
 okB_nil) okB_nil)
 (okB_cons (okS_asgZ (.s (.s (.s (.s .z)))) nd (okE_ix (pIxC_ok hr.units) (okA_slot (.s .z) (okA_cons okE_int okA_nil))))
 (okB_cons (okS_if (okT_cmp (pInC_ok hr.units) (okA_slot .z (okA_cons (okE_glob (gv_con T.g_SHORT)) okA_nil))) (okB_cons (okS_if (okT_bool (okW_or (okT_not (okT_tru (okA_cons (okE_callP C_is_number hr (by decide) takes_f (okA_slot (.s (.s (.s (.s .z)))) okA_nil)) okA_nil))) (okW_or1 (okT_not (okT_chain pLe_ok pLe_ok (okA_cons (okE_un pNeg_ok (okA_cons okE_int okA_nil)) (okA_cons (okE_fz (.s (.s (.s (.s .z))))) okA_nil)) (okA_cons okE_int okA_nil)))))) (okB_cons (okS_raise (c := 1) (XX.err 1 "place" rfl).1 hr (by decide) rfl takes_f (okA_cons okE_int okA_nil))
 okB_nil) okB_nil)
 (okB_cons (okS_ret (okE_tup (okA_cons (okE_bin pAdd_ok (okA_slot (.s (.s (.s .z))) (okA_cons (okE_bin pMod_ok (okA_cons (okE_callT T.b_int pInt_ok (okA_slot (.s (.s (.s (.s .z)))) okA_nil)) (okA_cons okE_int okA_nil))) okA_nil))) okA_nil)))
 okB_nil)) okB_nil)
 (okB_cons (okS_if (okT_not (okT_tru (okA_cons (okE_callP C_is_word hr (by decide) takes_f (okA_slot (.s (.s (.s (.s .z)))) okA_nil)) okA_nil))) (okB_cons (okS_raise (c := 1) (XX.err 1 "place" rfl).1 hr (by decide) rfl takes_f (okA_cons okE_int okA_nil))
 okB_nil) okB_nil)
 (okB_cons (okS_ret (okE_tup (okA_cons (okE_fz (.s (.s (.s .z)))) (okA_cons (okE_fz (.s (.s (.s (.s .z))))) okA_nil))))
 okB_nil)))))))))
theorem ok_law_first_words {f : Addr} {fd : FuncData} (F : Fun K "_law_first_words" "_law_first_words" st_law_first_words f fd) (T : Txt K mg) (C_decoded : CalP P w K mg base 2 "decoded" 1 (specP F_decoded)) (C_law_draw : CalM P w K mg base 1 "_law_draw" 2 (specM F_law_draw)) (C_law_word : CalM P w K mg base 2 "_law_word" 1 (specM F_law_word)) (C_law_plain : CalP P w K mg base 13 "_law_plain" 1 (specP (F_law_plain 12))) : FnOk P w K mg base (L2N.CX P w) 14 f fd ["source", "rows"] (spM K 2 (specM F_law_first_words)) := by
  have nd := sc_law_first_words.nd
  exact fnM F sc_law_first_words (by decide) (k := 13) fun π cdv A outer s H E Ξ hr =>
 (okB_cons (okS_if (okT_cmp pIsnot_ok (okA_cons (okE_callP C_decoded hr (by decide) takes_f (okA_cons (okE_tup okA_nil) okA_nil)) (okA_cons okE_non okA_nil))) (okB_cons (okS_ret okE_bl)
 okB_nil) okB_nil)
 (okB_cons (okS_asgZ (.s (.s .z)) nd (okE_bin pAdd_ok (okA_cons okE_int (okA_cons (okE_callM C_law_draw hr (by decide) takes_f .z (okA_cons okE_int okA_nil)) okA_nil))))
 (okB_cons (okS_asgZ (.s (.s (.s .z))) nd (okE_callM C_law_word hr (by decide) takes_f .z okA_nil))
 (okB_cons (okS_for (okG_name (.s (.s (.s (.s .z)))) nd) (okI_rg1 T.b_range (okA_cons okE_int okA_nil)) (okB_cons (okS_asgZ (.s (.s (.s (.s (.s .z))))) nd okE_str)
 (okB_cons (okS_asgZ (.s (.s (.s (.s (.s (.s .z)))))) nd okE_int)
 (okB_cons (okS_if (okT_bool (okW_and (okT_cmp pLt_ok (okA_cons okE_int (okA_slot (.s (.s (.s (.s .z)))) okA_nil))) (okW_and1 (okT_cmp pLt_ok (okA_slot (.s (.s (.s (.s .z)))) (okA_cons okE_int okA_nil)))))) (okB_cons (okS_asgZ (.s (.s (.s (.s (.s .z))))) nd (okE_ix (pIxC_ok hr.units) (okA_cons (okE_ix (pIxC_ok hr.units) (okA_slot (.s .z) (okA_cons (okE_bin pSub_ok (okA_slot (.s (.s (.s (.s .z)))) (okA_cons okE_int okA_nil))) okA_nil))) (okA_cons okE_int okA_nil))))
 (okB_cons (okS_asgZ (.s (.s (.s (.s (.s (.s .z)))))) nd (okE_ix (pIxC_ok hr.units) (okA_cons (okE_ix (pIxC_ok hr.units) (okA_slot (.s .z) (okA_cons (okE_bin pSub_ok (okA_slot (.s (.s (.s (.s .z)))) (okA_cons okE_int okA_nil))) okA_nil))) (okA_cons okE_int okA_nil))))
 okB_nil)) okB_nil)
 (okB_cons (okS_for (okG_name (.s (.s (.s (.s (.s (.s (.s .z))))))) nd) (okI_seq (okE_tup (okA_cons okE_int (okA_cons (okE_fz (.s (.s .z))) okA_nil)))) (okB_cons (okS_asgZ (.s (.s (.s (.s (.s (.s (.s (.s .z)))))))) nd (okE_callP C_decoded hr (by decide) takes_f (okA_cons (okE_tup (okA_cons (okE_bin pAdd_ok (okA_cons (okE_bin pMulS_ok (okA_cons okE_int (okA_slot (.s (.s (.s (.s .z)))) okA_nil))) (okA_slot (.s (.s (.s (.s (.s (.s (.s .z))))))) okA_nil))) (okA_cons (okE_fz (.s (.s (.s .z)))) okA_nil))) okA_nil)))
 (okB_cons (okS_asgZ (.s (.s (.s (.s (.s (.s (.s (.s (.s .z))))))))) nd (okE_tup (okA_cons (okE_fz (.s (.s (.s (.s (.s .z)))))) (okA_cons (okE_tup okA_nil) okA_nil))))
 (okB_cons (okS_if (okT_cmp (pEq_ok hr.units) (okA_slot (.s (.s (.s (.s (.s (.s .z)))))) (okA_cons okE_int okA_nil))) (okB_cons (okS_asgZ (.s (.s (.s (.s (.s (.s (.s (.s (.s .z))))))))) nd (okE_tup (okA_cons (okE_fz (.s (.s (.s (.s (.s .z)))))) (okA_cons (okE_tup (okA_cons (okE_bin pSub_ok (okA_slot (.s (.s (.s (.s (.s (.s (.s .z))))))) (okA_cons (okE_bin pMulS_ok (okA_cons okE_int (okA_cons (okE_callT T.b_int pInt_ok (okA_cons (okE_cmp pGt_ok (okA_slot (.s (.s (.s (.s (.s (.s (.s .z))))))) (okA_cons okE_int okA_nil))) okA_nil)) okA_nil))) okA_nil))) okA_nil)) okA_nil))))
 okB_nil) okB_nil)
 (okB_cons (okS_if (okT_cmp (pEq_ok hr.units) (okA_slot (.s (.s (.s (.s (.s (.s .z)))))) (okA_cons okE_int okA_nil))) (okB_cons (okS_asgZ (.s (.s (.s (.s (.s (.s (.s (.s (.s .z))))))))) nd (okE_tup (okA_cons (okE_fz (.s (.s (.s (.s (.s .z)))))) (okA_cons (okE_tup (okA_cons (okE_fz (.s (.s (.s .z)))) okA_nil)) okA_nil))))
 okB_nil) okB_nil)
 (okB_cons (okS_if (okT_bool (okW_or (okT_cmp (pEq_ok hr.units) (okA_slot (.s (.s (.s (.s (.s .z))))) (okA_cons okE_str okA_nil))) (okW_or1 (okT_bool (okW_and (okT_cmp (pNe_ok hr.units) (okA_slot (.s (.s (.s (.s (.s (.s .z)))))) (okA_cons okE_int okA_nil))) (okW_and1 (okT_cmp (pNe_ok hr.units) (okA_slot (.s (.s (.s (.s (.s (.s (.s .z))))))) (okA_cons okE_int okA_nil))))))))) (okB_cons (okS_if (okT_cmp pIsnot_ok (okA_slot (.s (.s (.s (.s (.s (.s (.s (.s .z)))))))) (okA_cons okE_non okA_nil))) (okB_cons (okS_ret okE_bl)
 okB_nil) okB_nil)
 okB_nil) (okB_cons (okS_if (okT_cmp (pNe_ok hr.units) (okA_cons (okE_callP C_law_plain hr (by decide) takes_f (okA_slot (.s (.s (.s (.s (.s (.s (.s (.s .z)))))))) okA_nil)) (okA_cons (okE_callP C_law_plain hr (by decide) takes_f (okA_slot (.s (.s (.s (.s (.s (.s (.s (.s (.s .z))))))))) okA_nil)) okA_nil))) (okB_cons (okS_ret okE_bl)
 okB_nil) okB_nil)
 okB_nil))
 okB_nil))))) passes_f rfl)
 okB_nil)))) passes_f rfl)
 (okB_cons (okS_ret okE_bl)
 okB_nil)))))
theorem ok_law_there_and_back {f : Addr} {fd : FuncData} (F : Fun K "_law_there_and_back" "_law_there_and_back" st_law_there_and_back f fd) (T : Txt K mg) (C_law_draw : CalM P w K mg base 1 "_law_draw" 2 (specM F_law_draw)) (C_law_word : CalM P w K mg base 2 "_law_word" 1 (specM F_law_word)) (C_law_due : CalP P w K mg base 1 "_law_due" 3 (specP F_law_due)) (C_code_words : CalV P w K mg base 3 "code_words" (starS 1 (specP F_code_words))) (C_law_plain : CalP P w K mg base 13 "_law_plain" 1 (specP (F_law_plain 12))) (C_decoded : CalP P w K mg base 2 "decoded" 1 (specP F_decoded)) : FnOk P w K mg base (L2N.CX P w) 14 f fd ["source", "name", "number", "form"] (spM K 4 (specM F_law_there_and_back)) := by
  have nd := sc_law_there_and_back.nd
  exact fnM F sc_law_there_and_back (by decide) (k := 13) fun π cdv A outer s H E Ξ hr =>
 (okB_cons (okS_asgZ (.s (.s (.s (.s .z)))) nd (okE_lst (okA_cons okE_int okA_nil)))
 (okB_cons (okS_if (okT_cmp (pEq_ok hr.units) (okA_slot (.s (.s (.s .z))) (okA_cons okE_int okA_nil))) (okB_cons (okS_asgZ (.s (.s (.s (.s .z)))) nd (okE_lst (okA_cons (okE_un pNeg_ok (okA_cons okE_int okA_nil)) (okA_cons (okE_un pNeg_ok (okA_cons okE_int okA_nil)) (okA_cons okE_int (okA_cons okE_int (okA_cons (okE_bin pSub_ok (okA_cons (okE_callM C_law_draw hr (by decide) takes_f .z (okA_cons okE_int okA_nil)) (okA_cons okE_int okA_nil))) okA_nil)))))))
 okB_nil) okB_nil)
 (okB_cons (okS_if (okT_cmp (pEq_ok hr.units) (okA_slot (.s (.s (.s .z))) (okA_cons okE_int okA_nil))) (okB_cons (okS_asgZ (.s (.s (.s (.s .z)))) nd (okE_lst (okA_cons okE_int (okA_cons okE_int (okA_cons (okE_callM C_law_word hr (by decide) takes_f .z okA_nil) okA_nil)))))
 okB_nil) okB_nil)
 (okB_cons (okS_asgZ (.s (.s (.s (.s (.s .z))))) nd (okE_callT T.b_tuple pTuple_ok (okA_cons (okE_lc (own := [("step", 6)]) nd rfl (fun _ _ _ _ _ => (okG_name (.s (.s (.s (.s (.s (.s .z)))))) nd)) (okI_rg1 T.b_range (okA_cons (okE_callM C_law_draw hr (by decide) takes_f .z (okA_cons okE_int okA_nil)) okA_nil)) .nil (fun _ _ _ _ _ lv => (okE_callM C_law_word hr (by decide) takesN .z okA_nil))) okA_nil)))
 (okB_cons (okS_for (okG_name (.s (.s (.s (.s (.s (.s (.s .z))))))) nd) (okI_seq (okE_fz (.s (.s (.s (.s .z)))))) (okB_cons (okS_asgZ (.s (.s (.s (.s (.s (.s (.s (.s .z)))))))) nd (okE_callP C_law_due hr (by decide) takes_f (okA_slot (.s (.s .z)) (okA_slot (.s (.s (.s .z))) (okA_slot (.s (.s (.s (.s (.s (.s (.s .z))))))) okA_nil)))))
 (okB_cons (okS_asgZ (.s (.s (.s (.s (.s (.s (.s (.s (.s .z))))))))) nd (okE_tup (okA_cons (okE_fz (.s .z)) (okA_cons (okE_tup (okA_cons (okE_fz (.s (.s (.s (.s (.s (.s (.s .z)))))))) okA_nil)) okA_nil))))
 (okB_cons (okS_if (okT_cmp (pEq_ok hr.units) (okA_slot (.s (.s (.s .z))) (okA_cons okE_int okA_nil))) (okB_cons (okS_asgZ (.s (.s (.s (.s (.s (.s (.s (.s (.s (.s .z)))))))))) nd (okE_callV C_code_words hr (by decide) takes_f (by decide) (okA_slot (.s .z) okA_nil)))
 (okB_cons (okS_asgZ (.s (.s (.s (.s (.s (.s (.s (.s (.s .z))))))))) nd (okE_tup (okA_cons (okE_fz (.s .z)) (okA_cons (okE_tup okA_nil) okA_nil))))
 okB_nil)) (okB_cons (okS_asgZ (.s (.s (.s (.s (.s (.s (.s (.s (.s (.s .z)))))))))) nd (okE_callV C_code_words hr (by decide) takes_f (by decide) (okA_slot (.s .z) (okA_slot (.s (.s (.s (.s (.s (.s (.s .z))))))) okA_nil))))
 okB_nil))
 (okB_cons (okS_if (okT_cmp (pNe_ok hr.units) (okA_cons (okE_callP C_law_plain hr (by decide) takes_f (okA_slot (.s (.s (.s (.s (.s (.s (.s (.s (.s (.s .z)))))))))) okA_nil)) (okA_cons (okE_callP C_law_plain hr (by decide) takes_f (okA_slot (.s (.s (.s (.s (.s (.s (.s (.s .z)))))))) okA_nil)) okA_nil))) (okB_cons (okS_ret okE_bl)
 okB_nil) okB_nil)
 (okB_cons (okS_if (okT_bool (okW_or (okT_cmp (pNe_ok hr.units) (okA_cons (okE_callP C_law_plain hr (by decide) takes_f (okA_cons (okE_callP C_decoded hr (by decide) takes_f (okA_slot (.s (.s (.s (.s (.s (.s (.s (.s .z)))))))) okA_nil)) okA_nil)) (okA_cons (okE_callP C_law_plain hr (by decide) takes_f (okA_slot (.s (.s (.s (.s (.s (.s (.s (.s (.s .z))))))))) okA_nil)) okA_nil))) (okW_or1 (okT_cmp (pNe_ok hr.units) (okA_cons (okE_callP C_law_plain hr (by decide) takes_f (okA_cons (okE_callP C_decoded hr (by decide) takes_f (okA_cons (okE_bin pAdd_ok (okA_slot (.s (.s (.s (.s (.s (.s (.s (.s .z)))))))) (okA_slot (.s (.s (.s (.s (.s .z))))) okA_nil))) okA_nil)) okA_nil)) (okA_cons (okE_callP C_law_plain hr (by decide) takes_f (okA_slot (.s (.s (.s (.s (.s (.s (.s (.s (.s .z))))))))) okA_nil)) okA_nil)))))) (okB_cons (okS_ret okE_bl)
 okB_nil) okB_nil)
 (okB_cons (okS_if (okT_bool (okW_and (okT_cmp (pEq_ok hr.units) (okA_slot (.s (.s (.s .z))) (okA_cons okE_int okA_nil))) (okW_and1 (okT_cmp pIsnot_ok (okA_cons (okE_callP C_decoded hr (by decide) takes_f (okA_cons (okE_slTo pSlToS_ok (okA_slot (.s (.s (.s (.s (.s (.s (.s (.s .z)))))))) (okA_cons okE_int okA_nil))) okA_nil)) (okA_cons okE_non okA_nil)))))) (okB_cons (okS_ret okE_bl)
 okB_nil) okB_nil)
 okB_nil)))))) passes_f rfl)
 (okB_cons (okS_ret okE_bl)
 okB_nil))))))
theorem ok_law_refused {f : Addr} {fd : FuncData} (F : Fun K "_law_refused" "_law_refused" st_law_refused f fd) (T : Txt K mg) (XX : XS P w K mg base 2 nm_ cv_ sub_ fo_) (C_code_words : CalV P w K mg base 3 "code_words" (starS 1 (specP F_code_words))) (CH_law_plain : CalH P w K mg base 13 "_law_plain" 1 (specP (F_law_plain 12))) : FnOk P w K mg base (L2N.CX P w) 14 f fd ["name", "operands", "place"] (spP K 3 (specP F_law_refused)) := by
  have nd := sc_law_refused.nd
  exact fnP F sc_law_refused (by decide) (k := 13) fun π cdv A outer s H E Ξ hr =>
 (okB_cons (okS_try (cv := cv_) (fun c c' b h => (XX.exc c c' b h).2.1) rfl rfl nd takes_f (.named (c := 1) ⟨rfl, by decide, .inl (XX.gl 1 (by decide))⟩ (.s (.s (.s .z))) rfl (fun a oe pn dd xn cx => (okB_cons (okS_ret (okE_and (okE_cmp (pEq_ok hr.units) (okA_cons (okE_callH CH_law_plain (L2H.room_hot hr _) (by decide) (hot_suite cx) takesN (okA_cons (okE_xf XX rfl (.s (.s (.s .z))) cx) okA_nil)) (okA_cons (okE_callH CH_law_plain (L2H.room_hot hr _) (by decide) (hot_suite cx) takesN (okA_slot (.s (.s .z)) okA_nil)) okA_nil))) (okE_and (okE_isx XX rfl (.s (.s (.s .z))) cx T.b_isinstance (okE_glob (gv_cls (XX.gl 0 (by decide)))) (fun u h => h)) (okE_one (okE_isx XX rfl (.s (.s (.s .z))) cx T.b_isinstance (okE_bltn T.b_ValueError) (fun u h => h))))))
 okB_nil)) (.bare (c := 0) ⟨rfl, by decide, .inl (XX.gl 0 (by decide))⟩ (fun a oe pn dd xn cx => (okB_cons (okS_ret okE_bl)
 okB_nil)) .nil)) fun W pn xe Q tk1 hp1 => (okB_cons (okS_if (okT_cmp (pEq_ok hr.units) (okA_cons (okE_callB T.b_len pLenC_ok (okA_slot (.s .z) okA_nil)) (okA_cons okE_int okA_nil))) (okB_cons (okS_expr (okE_callV C_code_words hr (by decide) tk1 (by decide) (okA_slot .z okA_nil)))
 okB_nil) (okB_cons (okS_if (okT_cmp (pEq_ok hr.units) (okA_cons (okE_callB T.b_len pLenC_ok (okA_slot (.s .z) okA_nil)) (okA_cons okE_int okA_nil))) (okB_cons (okS_expr (okE_callV C_code_words hr (by decide) tk1 (by decide) (okA_slot .z (okA_cons (okE_ix (pIxC_ok hr.units) (okA_slot (.s .z) (okA_cons okE_int okA_nil))) okA_nil))))
 okB_nil) (okB_cons (okS_expr (okE_callV C_code_words hr (by decide) tk1 (by decide) (okA_slot .z (okA_cons (okE_ix (pIxC_ok hr.units) (okA_slot (.s .z) (okA_cons okE_int okA_nil))) (okA_cons (okE_ix (pIxC_ok hr.units) (okA_slot (.s .z) (okA_cons okE_int okA_nil))) okA_nil)))))
 okB_nil))
 okB_nil))
 okB_nil))
 (okB_cons (okS_ret okE_bl)
 okB_nil))
theorem ok_law {f : Addr} {fd : FuncData} (F : Fun K "law" "law" st_law f fd) (T : Txt K mg) (C_law_source : CalP P w K mg base 1 "_law_source" 1 (specP F_law_source)) (C_law_table : CalP P w K mg base 1 "_law_table" 0 (specP F_law_table)) (C_law_there_and_back : CalM P w K mg base 14 "_law_there_and_back" 4 (specM F_law_there_and_back)) (C_law_first_words : CalM P w K mg base 14 "_law_first_words" 2 (specM F_law_first_words)) (C_law_draw : CalM P w K mg base 1 "_law_draw" 2 (specM F_law_draw)) (C_law_refused : CalP P w K mg base 14 "_law_refused" 3 (specP F_law_refused)) (C_law_word : CalM P w K mg base 2 "_law_word" 1 (specM F_law_word)) (C_law_misfits : CalM P w K mg base 2 "_law_misfits" 2 (specM F_law_misfits)) : FnOk P w K mg base (L2N.CX P w) 15 f fd ["script"] (spP K 1 (specP F_law)) := by
  have nd := sc_law.nd
  exact fnP F sc_law (by decide) (k := 14) fun π cdv A outer s H E Ξ hr =>
 (okB_cons (okS_asg (.s .z) nd (okE_callP C_law_source hr (by decide) takes_f (okA_slot .z okA_nil)))
 (okB_cons (okS_asgZ (.s (.s .z)) nd (okE_callP0 C_law_table hr (by decide) takes_f))
 (okB_cons (okS_for (okG_tup (okGs_cons (okG_name (.s (.s (.s .z))) nd) (okGs_cons (okG_name (.s (.s (.s (.s .z)))) nd) (okGs_cons (okG_name (.s (.s (.s (.s (.s .z))))) nd) okGs_nil))) rfl (hl := tgsC_len (tgsC_len (tgsC_len (fun _ _ _ h => tgsN_len h))))) (okI_seq (okE_fz (.s (.s .z)))) (okB_cons (okS_if (okT_not (okT_tru (okA_cons (okE_callM C_law_there_and_back hr (by decide) takes_f (.s .z) (okA_cons (okE_fz (.s (.s (.s .z)))) (okA_cons (okE_fz (.s (.s (.s (.s .z))))) (okA_cons (okE_fz (.s (.s (.s (.s (.s .z)))))) okA_nil)))) okA_nil))) (okB_cons (okS_ret okE_bl)
 okB_nil) okB_nil)
 okB_nil) passes_f rfl)
 (okB_cons (okS_if (okT_not (okT_tru (okA_cons (okE_callM C_law_first_words hr (by decide) takes_f (.s .z) (okA_cons (okE_fz (.s (.s .z))) okA_nil)) okA_nil))) (okB_cons (okS_ret okE_bl)
 okB_nil) okB_nil)
 (okB_cons (okS_asgZ (.s (.s (.s (.s (.s (.s .z)))))) nd (okE_ix (pIxC_ok hr.units) (okA_cons (okE_ix (pIxC_ok hr.units) (okA_slot (.s (.s .z)) (okA_cons (okE_callM C_law_draw hr (by decide) takes_f (.s .z) (okA_cons okE_int okA_nil)) okA_nil))) (okA_cons okE_int okA_nil))))
 (okB_cons (okS_asgZ (.s (.s (.s (.s (.s (.s (.s .z))))))) nd (okE_lst (okA_cons okE_str (okA_cons okE_str (okA_cons okE_str (okA_cons okE_str (okA_cons okE_str (okA_cons okE_str (okA_cons okE_str (okA_cons okE_str (okA_cons okE_str (okA_cons okE_str (okA_cons okE_int (okA_cons okE_non okA_nil))))))))))))))
 (okB_cons (okS_for (okG_name (.s (.s (.s .z))) nd) (okI_seq (okE_bin pAdd_ok (okA_slot (.s (.s (.s (.s (.s (.s (.s .z))))))) (okA_cons (okE_lst (okA_cons (okE_bin pAdd_ok (okA_slot (.s (.s (.s (.s (.s (.s .z)))))) (okA_cons okE_str okA_nil))) okA_nil)) okA_nil)))) (okB_cons (okS_for (okG_name (.s (.s (.s (.s (.s (.s (.s (.s .z)))))))) nd) (okI_seq (okE_lst (okA_cons (okE_lst okA_nil) (okA_cons (okE_lst (okA_cons okE_int okA_nil)) (okA_cons (okE_lst (okA_cons (okE_un pNeg_ok (okA_cons okE_int okA_nil)) okA_nil)) (okA_cons (okE_lst (okA_cons okE_int (okA_cons okE_int okA_nil))) okA_nil)))))) (okB_cons (okS_if (okT_not (okT_tru (okA_cons (okE_callP C_law_refused hr (by decide) takes_f (okA_slot (.s (.s (.s .z))) (okA_slot (.s (.s (.s (.s (.s (.s (.s (.s .z)))))))) (okA_cons okE_int okA_nil)))) okA_nil))) (okB_cons (okS_ret okE_bl)
 okB_nil) okB_nil)
 okB_nil) passes_f rfl)
 okB_nil) passes_f rfl)
 (okB_cons (okS_for (okG_tup (okGs_cons (okG_name (.s (.s (.s .z))) nd) (okGs_cons (okG_name (.s (.s (.s (.s .z)))) nd) (okGs_cons (okG_name (.s (.s (.s (.s (.s .z))))) nd) okGs_nil))) rfl (hl := tgsC_len (tgsC_len (tgsC_len (fun _ _ _ h => tgsN_len h))))) (okI_seq (okE_fz (.s (.s .z)))) (okB_cons (okS_asgZ (.s (.s (.s (.s (.s (.s (.s (.s (.s .z))))))))) nd (okE_callM C_law_word hr (by decide) takes_f (.s .z) okA_nil))
 (okB_cons (okS_if (okT_bool (okW_or (okT_not (okT_tru (okA_cons (okE_callP C_law_refused hr (by decide) takes_f (okA_slot (.s (.s (.s .z))) (okA_cons (okE_lst (okA_cons (okE_fz (.s (.s (.s (.s (.s (.s (.s (.s (.s .z)))))))))) (okA_cons (okE_fz (.s (.s (.s (.s (.s (.s (.s (.s (.s .z)))))))))) okA_nil))) (okA_cons okE_int okA_nil)))) okA_nil))) (okW_or1 (okT_not (okT_tru (okA_cons (okE_callP C_law_refused hr (by decide) takes_f (okA_slot (.s (.s (.s .z))) (okA_cons (okE_lst (okA_cons (okE_un pNeg_ok (okA_cons okE_int okA_nil)) (okA_cons (okE_fz (.s (.s (.s (.s (.s (.s (.s (.s (.s .z)))))))))) okA_nil))) (okA_cons okE_int okA_nil)))) okA_nil)))))) (okB_cons (okS_ret okE_bl)
 okB_nil) okB_nil)
 (okB_cons (okS_if (okT_bool (okW_and (okT_cmp (pEq_ok hr.units) (okA_slot (.s (.s (.s (.s (.s .z))))) (okA_cons okE_int okA_nil))) (okW_and1 (okT_bool (okW_or (okT_not (okT_tru (okA_cons (okE_callP C_law_refused hr (by decide) takes_f (okA_slot (.s (.s (.s .z))) (okA_cons (okE_lst (okA_cons (okE_fz (.s (.s (.s (.s (.s (.s (.s (.s (.s .z)))))))))) okA_nil)) (okA_cons okE_int okA_nil)))) okA_nil))) (okW_or1 (okT_not (okT_tru (okA_cons (okE_callP C_law_refused hr (by decide) takes_f (okA_slot (.s (.s (.s .z))) (okA_cons (okE_lst (okA_cons (okE_un pNeg_ok (okA_cons okE_int okA_nil)) okA_nil)) (okA_cons okE_int okA_nil)))) okA_nil))))))))) (okB_cons (okS_ret okE_bl)
 okB_nil) okB_nil)
 (okB_cons (okS_if (okT_bool (okW_and (okT_cmp (pNe_ok hr.units) (okA_slot (.s (.s (.s (.s (.s .z))))) (okA_cons okE_int okA_nil))) (okW_and1 (okT_not (okT_tru (okA_cons (okE_callP C_law_refused hr (by decide) takes_f (okA_slot (.s (.s (.s .z))) (okA_cons (okE_lst okA_nil) (okA_cons okE_int okA_nil)))) okA_nil)))))) (okB_cons (okS_ret okE_bl)
 okB_nil) okB_nil)
 (okB_cons (okS_if (okT_cmp (pNe_ok hr.units) (okA_slot (.s (.s (.s (.s (.s .z))))) (okA_cons okE_int okA_nil))) (okB_cons (okS_for (okG_name (.s (.s (.s (.s (.s (.s (.s (.s (.s (.s .z)))))))))) nd) (okI_seq (okE_callM C_law_misfits hr (by decide) takes_f (.s .z) (okA_cons (okE_fz (.s (.s (.s (.s (.s .z)))))) okA_nil))) (okB_cons (okS_if (okT_not (okT_tru (okA_cons (okE_callP C_law_refused hr (by decide) takes_f (okA_slot (.s (.s (.s .z))) (okA_cons (okE_lst (okA_cons (okE_fz (.s (.s (.s (.s (.s (.s (.s (.s (.s (.s .z))))))))))) okA_nil)) (okA_cons okE_int okA_nil)))) okA_nil))) (okB_cons (okS_ret okE_bl)
 okB_nil) okB_nil)
 okB_nil) passes_f rfl)
 okB_nil) okB_nil)
 okB_nil))))) passes_f rfl)
 (okB_cons (okS_ret (okE_callM C_law_there_and_back hr (by decide) takes_f (.s .z) (okA_cons okE_str (okA_cons okE_int (okA_cons okE_int okA_nil)))))
 okB_nil)))))))))
end
end K
namespace K
open PySem Zd Zf
local macro_rules | `(tactic| walk_at "zrun") => `(tactic| try simp only [bind_ok, bind_ex, bind_no, st_ok, st_ex, st_no, thn_nx, thn_rt, thn_bk, thn_ct, thn_ex, thn_no, blk_nil, blk_one, blk_cons, kV_r, kSi_r, kE_vd17, kE_ol18, kE_od19, kE_oo20, kS_v, kS_o, aN_r, aE_r, aS_r, look_nil, look_v, look_s, lkv_r, lks_v, lks_l, lks_d, lks_o, kO_r, oL_r, oP_f, oP_t37, oP_t38, oP_t39, oP_t40, oP_tt, oP_tl, oP_n, opF_r, kT_r, tL_r, tP_r, tOpF_r, kU_r, uL_r, tU_r, tTru_r, cst_r, mv_r, mvK_v, mvK_o, fz_r, fzK_v, fzK_l, fzK_o, fzK_d, tNot_r, ntK_r, wAnd_r, wOr_r, andK_r, orK_r, tVal_r, vlK_r, eNot_r, enK_r, eAnd_r, eOr_r, eaK_r, eoK_r, eIf_r, eiK_r, ixO_r, ixO1_l, ixO1_v, ixOK_r, oD_r, ixO2_r, chF_r, chK_r, ch1_r, ch2_r, ch3_r, sl2F_r, s2K_r, s22_r, appF_r, app1_r, appK_r, app2_r, extF_r, ext1_r, extK_r, ext2_r, insF_r, ins1_r, insK_r, ins2_r, callP_r, cpK_r, cpL_1, cpL_2, cpL_3, cpL_4, cpL_5, cpL_6, cpL_7, cpL_8, rcK_f, rcK_t115, rcK_t116, rcK_t117, rcK_t118, rcK_tt, rcK_tl, rcK_xf, rcK_xt, callM_r, cm1_r, cmK_r, cm2_0, cm2_1, cm2_2, cm2_3, cm2_4, cm2_5, cm2_6, rmK_v, rmK_o, rmK_x, allV_n, allV_v, avK_r, itF_r, itK_v, itK_l, itL_r, seqD_143, seqD_144, seqD_145, seqD_146, rg1F_r, rg1K_r, rg2F_r, rg2K_r, lcF_r, lcK_r, lc2_r, wipeS_nil, wipeS_cons, xfF_r, xf1_r, isxF_r, isx1_r, isx2_r, exF_r, nxK_r, retF_r, rtK_r, retN_r, asgF_r, sgK_r, asgZ_r, szK_v, szK_l, szK_d, szK_o, ifF_r, iK_r, augF_r, au1_r, au2_v, au2_l, au3_v, au3_o, stF_r, st1_r, st1K_v, st1K_l, st2_r, st2K_r, st3_r, st4_r, forF_r, foK_r, rsF_r, rsK_r, pasF_r, brkF_r, cntF_r, tryF_r, tyK_x, tyK_n, tyK_r, tyK_b, tyK_c, hGo_nil, hGo_cons, hK_f, hK_n, hK_s, clnN_nx, clnS_nx, clnN_bk, clnS_bk, clnN_ct, clnS_ct, clnN_rt, clnS_rt, noX_nil, noX_cons, noXl_217, noXl_218, noXl_219, tgN_r, tgP_r, runP_r, rpK_n, rpK_v, rpK_o, rpK_x, runM_r, rmR_n, rmR_v, rmR_o, rmR_x, pAdd_232, pSub_233, pIadd_234, pIsub_235, pAdd_236, pAdd_237, pAdd_238, pMul_239, pMul_240, pFdiv_241, pMod_242, pPow_243, pShl_244, pShr_245, pBand_246, pNeg_247, pLt_248, pLe_249, pGt_250, pGe_251, pEq_252, pEq_253, pEq_254, pEq_255, pEq_256, pEq_257, pEq_258, pEq_259, pEq_260, pEq_261, pEq_262, pNe_263, pNe_264, pNe_265, pNe_266, pNe_267, pNe_268, pNe_269, pNe_270, pNe_271, pNe_272, pNe_273, pIs_274, pIs_275, pIs_276, pIs_277, pIs_278, pIs_279, pIs_280, pIs_281, pIs_282, pIsnot_283, pIsnot_284, pIsnot_285, pIsnot_286, pIsnot_287, pIsnot_288, pIsnot_289, pIsnot_290, pIsnot_291, pIn_292, pIn_293, pNin_294, pNin_295, pLen_296, pLen_297, pLen_298, pLen_299, pInt_300, pInt_301, pAbs_302, pMin_303, pMax_304, pList_305, pTuple_306, pList_307, pTuple_308, pTup_309, pLst_310, pIsi_311, pIsi_312, pIsi_313, pIsi_314, pIsi_315, pIsi_316, pIsi_317, pIsi_318, pIsi_319, pIsi_320, pIsi_321, pIsi_322, pIsi_323, pIsi_324, pIsi_325, pIsi_326, pIsi_327, pIsi_328, pIsi_329, pIsi_330, pIsi_331, pIsi_332, pIsi_333, pIsi_334, pIsi_335, pIsi_336, pIsi_337, pIsi_338, pIsi_339, pIsi_340, pIsi_341, pIsi_342, pIsi_343, pIsi_344, pIsi_345, pIsi_346, mpV_r, pIx_lst, pIx_tup, pSlTo_350, pSlFr_351, pSlBt_352, pSlTo_353, pSlFr_354, pSlBt_355, pSlAl_356, pBits_357, truD_358, truD_359, truD_360, truD_361, truD_362, truD_363, rg3F_r, rg3K_r, rg3L_r, tgsN_r, tgsC_r, tgo_r, tgT_r, asgT_r, atK_v, nxO_r, bmF_r, bmK_r, bm1_r, bmB_r, bm0F_r, bm0K_r, bm01_r, tyQ_381, tyQ_382, tyQ_383, tyQ_384, tyQ_385, omF_r, om1_r, omK_r, om2_r, om3_r, om0F_r, om01_r, tyCell_l, tyCell_d, qGet_395, qGet_396, pGet_397, pGet_398, setC_399, atC_400, pIxC_401, pInC_402, pNinC_403, qGet_404, qGet_405, pGet_406, pGet_407, setC_408, atC_409, pIxC_410, pInC_411, pNinC_412, dicN_r, setC_l, setL_r, stC_r, sc1_r, sc1K_v, sc1K_l, sc2_r, sc2K_r, sc3_r, sc4_r, ixC_r, ixC1_l, ixC1_v, ixCK_r, ixC2_r, atC_l, pIxC_430, pInC_431, pNinC_432, pIxC_433, pInC_434, pNinC_435, pInC_436, pLenC_437, pLenC_438, pLenC_439, pLenC_440, pLenC_441, pRev_442, mpI_r, pIdx_444, itW_r, itWK_l, itWK_t, itWK_o, pSlToS_449, pSlFrS_450, pSlBtS_451, pSlToS_452, pSlFrS_453, pSlBtS_454, pSlToS_455, pSlFrS_456, pSlBtS_457, pMulS_458, pMulS_459, pMulS_460, pNinS_461, pNinS_462, pNinS_463, pNinS_464, pIn_465, pSidx_466, pRstr_467, pHex_468, pJoin_469, pStr_470, mpC_r, pIxC_472, fldD_n1, fldD_c, putK_n, putK_c, putDs_n, putDs_c, pFld_r, fldS_r, fld1_r, stA_r, stA1_r, stA2_484, stA2_485, stA2_486, stA2_487, stA3_r, mkF_r, mkK_r, mkL_1, mkL_2, mkL_3, mkL_4, mkL_5, mkL_6, mkL_7, mkL_8, mkR_v, mkR_x, meF_r, me1_502, me1_503, me3_r, me4_1, me4_2, me4_3, me4_4, me4_5, meF0_r, mz1_511, mz1_512, pLenO_r, lnR_r, pInO_r, pEqO_r, blR_r, pIsiO_r, enF_r, enuK_l, enuK_t, ite_and, ite_or, ite_andE, ite_orE, atI_of, ixN_of, sizeLine_is, natAbs_of, toNat_of, flat_ints, flat_bls, flat_strs, rep_s, rep_0, pSum_ints, natc_of, cpL_0, starP_1, starP_2, starP_3, pInG_r, pNinG_r, pIxG_r, itgF_r, Int.reduceEq, Int.reduceNe, Option.isSome_some, Option.isSome_none, Option.map_some, Option.map_none, List.map_cons, List.map_nil, List.length_cons, List.length_nil, List.cons_append, List.nil_append, Nat.reduceAdd, Nat.reduceSub, Nat.reduceMul, Nat.reduceEqDiff, Nat.reduceLeDiff, Nat.reduceLT, Nat.sub_zero, Nat.zero_add, Int.reduceLT, Int.reduceLE, Int.reduceNeg, Int.reduceToNat, and_self, true_and, and_true, or_true, true_or, not_true_eq_false, not_false_eq_true, List.getElem?_cons_zero, List.getElem?_cons_succ, List.set_cons_zero, List.set_cons_succ, Bool.false_and, Bool.true_and, Bool.and_true, Bool.and_false, Bool.and_self, Bool.not_true, Bool.not_false, Bool.false_eq_true, Bool.true_eq_false, if_true, if_false, reduceIte, ite_true, ite_false, eq_self, decide_eq_true_eq, Bool.not_eq_true', decide_eq_false_iff_not, decide_true, decide_false, List.length_map, List.length_append, Bool.and_eq_true, Bool.or_eq_true, flatDs, flatD])
local macro_rules | `(tactic| walk_at "zi") => `(tactic| (rw [if_pos (by first | assumption | omega)]; walk_at "zrun"))
local macro_rules | `(tactic| walk_at "zn") => `(tactic| (rw [if_neg (by first | assumption | omega)]; walk_at "zrun"))

section
variable [CA]
/-! ### the law's source of numbers -/
structure Src where
  cells : List Int
  place : Int
  digits : Int
  count : Int
  mixed : Int
structure Src.Good (s : Src) : Prop where
  pos : 0 < s.cells.length
  len : s.cells.length ≤ 100
  nn : ∀ c ∈ s.cells, 0 ≤ c
  pl : 0 ≤ s.place
  di : 0 ≤ s.digits
  co : 0 ≤ s.count
def Src.c (s : Src) : Cell := .lst [.lst (s.cells.map .int), .int s.place, .int s.digits, .int s.count, .int s.mixed]
theorem atI_ints {ns : List Int} {i : Int} (h0 : 0 ≤ i) (h1 : i < ns.length) : ∃ n, n ∈ ns ∧ L2.atI (ns.map D.int) i = some (.int n) := by
  obtain ⟨k, rfl⟩ : ∃ k : Nat, i = (k : Int) := ⟨i.toNat, (Int.toNat_of_nonneg h0).symm⟩
  have hk : k < ns.length := by omega
  refine ⟨ns[k], List.getElem_mem hk, L2.atI_nat ?_⟩
  rw [List.getElem?_map, List.getElem?_eq_getElem hk]
  rfl
theorem draw_ex (s : Src) (hs : s.Good) (n : Int) (hn : 1 ≤ n ∧ n < 1073741824) : ∃ (m : Int) (s' : Src), F_law_draw s.c [.int n] = .ok (.v (.int m)) s'.c ∧ 0 ≤ m ∧ m < n ∧ s'.Good := by
  obtain ⟨cells, place, digits, count, mixed⟩ := s
  obtain ⟨pos, len, nn, h1, h2, h3⟩ := hs
  have n0 : 0 < n := by omega
  have n1 : n < 4611686018427387904 := by omega
  have m0 : ∀ d, 0 ≤ d % n := fun d => Int.emod_nonneg _ (by omega)
  have m1 : ∀ d, d % n < n := fun d => Int.emod_lt_of_pos _ n0
  have d0 : 0 ≤ digits / n := Int.ediv_nonneg h2 (by omega)
  dsimp only at pos len nn h1 h2 h3
  have l0 : (0 : Int) < cells.length := by omega
  have i0 : 0 ≤ count % (cells.length : Int) := Int.emod_nonneg _ (by omega)
  have i1 : count % (cells.length : Int) < cells.length := Int.emod_lt_of_pos _ l0
  obtain ⟨c, hc, hat⟩ := atI_ints i0 i1
  unfold F_law_draw f_law_draw Src.c
  walk_at "zrun"
  by_cases h : mixed = 0 ∧ place < cells.length
  · simp only [h, and_self, if_true, n0, n1]
    walk_at "zrun"
    by_cases hd : digits / n = 0
    · simp only [hd, if_true]
      walk_at "zrun"
      by_cases hp : place + 1 < cells.length
      · obtain ⟨c', hc', hat'⟩ := atI_ints (ns := cells) (i := place + 1) (by omega) hp
        simp only [hp, if_true, hat']
        walk_at "zrun"
        simp only [n0, if_true]
        walk_at "zrun"
        exact ⟨_, ⟨cells, place + 1, c', count + 1, 0⟩, rfl, m0 _, m1 _, pos, len, nn, by show 0 ≤ place + 1; omega, nn _ hc', by show 0 ≤ count + 1; omega⟩
      · simp only [hp, if_false]
        walk_at "zrun"
        simp only [n0, if_true]
        walk_at "zrun"
        exact ⟨_, ⟨cells, place + 1, 0, count + 1, 0⟩, rfl, m0 _, m1 _, pos, len, nn, by show 0 ≤ place + 1; omega, Int.le_refl _, by show 0 ≤ count + 1; omega⟩
    · simp only [hd, if_false]
      walk_at "zrun"
      simp only [n0, if_true]
      walk_at "zrun"
      exact ⟨_, ⟨cells, place, digits / n, count + 1, 0⟩, rfl, m0 _, m1 _, pos, len, nn, h1, d0, by show 0 ≤ count + 1; omega⟩
  · simp only [h, if_false]
    walk_at "zrun"
    simp only [l0, if_true]
    walk_at "zrun"
    simp only [hat]
    walk_at "zrun"
    have b1 : -18446744073709551616 < (13 : Int) ∧ (13 : Int) < 18446744073709551616 := by decide
    generalize hnum : ((c + 13 * count + 7) * 48271 + (count + 1) * 69621) % 2147483647 = num
    have q0 : 0 ≤ num := by rw [← hnum]; exact Int.emod_nonneg _ (by decide)
    have q1 : num < 2147483647 := by rw [← hnum]; exact Int.emod_lt_of_pos _ (by decide)
    have q2 : (-18446744073709551616 < num ∧ num < 18446744073709551616) := by omega
    simp only [q2, true_or, and_self, if_true]
    walk_at "zrun"
    simp only [n0, if_true]
    walk_at "zrun"
    exact ⟨_, ⟨cells, place, digits, count + 1, mixed⟩, rfl, m0 _, m1 _, pos, len, nn, h1, h2, by show 0 ≤ count + 1; omega⟩
abbrev GS := {s : Src // s.Good}
def gc (s : GS) : Cell := s.1.c
theorem draw_ch (s : GS) (n : Int) : ∃ p : Int × GS, 1 ≤ n ∧ n < 1073741824 → F_law_draw (gc s) [.int n] = .ok (.v (.int p.1)) (gc p.2) ∧ 0 ≤ p.1 ∧ p.1 < n := by
  by_cases h : 1 ≤ n ∧ n < 1073741824
  · obtain ⟨m, s', h1, h2, h3, h4⟩ := draw_ex s.1 s.2 n h
    exact ⟨(m, ⟨s', h4⟩), fun _ => ⟨h1, h2, h3⟩⟩
  · exact ⟨(0, s), fun z => absurd z h⟩
noncomputable def dv (s : GS) (n : Int) : Int := (Classical.choose (draw_ch s n)).1
noncomputable def dn (s : GS) (n : Int) : GS := (Classical.choose (draw_ch s n)).2
theorem draw_r {s : GS} {n : Int} (h : 1 ≤ n ∧ n < 1073741824) : F_law_draw (gc s) [.int n] = .ok (.v (.int (dv s n))) (gc (dn s n)) := (Classical.choose_spec (draw_ch s n) h).1
theorem dv_nn {s : GS} {n : Int} (h : 1 ≤ n ∧ n < 1073741824) : 0 ≤ dv s n := (Classical.choose_spec (draw_ch s n) h).2.1
theorem dv_lt {s : GS} {n : Int} (h : 1 ≤ n ∧ n < 1073741824) : dv s n < n := (Classical.choose_spec (draw_ch s n) h).2.2
theorem source_r {ns : List Int} (h : ns.length ≤ 63) : ∃ s : GS, F_law_source [.klst (ns.map .int)] = .ok (.o 0 (gc s)) := by
  unfold F_law_source f_law_source
  walk_at "zrun"
  simp only [show ns.length ≤ 16777216 by omega, if_true]
  rw [lcGo_of D.int (fun n : Int => D.int (if n < 0 then -n else n))]
  rotate_left
  · exact fun a _ => Made.of rfl rfl rfl rfl
  rw [show (ns.map fun n : Int => D.int (if n < 0 then -n else n)) = (ns.map fun n : Int => if n < 0 then -n else n).map .int by rw [List.map_map]; rfl]
  generalize hc : (ns.map fun n : Int => if n < 0 then -n else n) = cells
  walk_at "zrun"
  have nn : ∀ c ∈ cells, 0 ≤ c := by
    rw [← hc]
    intro c h
    obtain ⟨n, _, rfl⟩ := List.mem_map.mp h
    split <;> omega
  have len : cells.length ≤ 63 := by rw [← hc, List.length_map]; exact h
  have fin : ∀ cells : List Int, 0 < cells.length → cells.length ≤ 63 → (∀ c ∈ cells, 0 ≤ c) → ∀ m : Int, ∃ (c0 : Int), cells[0]? = some c0 ∧ (Src.mk cells 0 c0 0 m).Good := fun cells h1 h2 h3 m => by
    cases cells with
    | nil => simp at h1
    | cons a r => exact ⟨a, rfl, h1, Nat.le_trans h2 (by decide), h3, Int.le_refl _, h3 _ (.head _), Int.le_refl _⟩
  try simp only [List.length_map]
  by_cases h0 : (cells.length : Int) = 0
  · simp only [h0, if_true]
    walk_at "zrun"
    exact ⟨⟨⟨[5], 0, 5, 0, _⟩, by obtain ⟨_, e, g⟩ := fin [5] (by decide) (by decide) (by simp) ((5 : Int) % 2); cases e; exact g⟩, rfl⟩
  · simp only [h0, if_false]
    walk_at "zrun"
    obtain ⟨c0, e0, _⟩ := fin cells (by omega) len nn 0
    have e1 : (cells.map D.int)[0]? = some (.int c0) := by rw [List.getElem?_map, e0]; rfl
    simp only [e1]
    walk_at "zrun"
    by_cases hb : c0 < 10 ^ 18
    · simp only [hb, if_true]
      walk_at "zrun"
      simp only [e1]
      walk_at "zrun"
      simp only [e1]
      walk_at "zrun"
      obtain ⟨_, e, gd⟩ := fin cells (by omega) len nn (c0 % 2)
      rw [e0] at e
      cases e
      exact ⟨⟨_, gd⟩, rfl⟩
    · simp only [hb, if_false]
      walk_at "zrun"
      simp only [e1]
      walk_at "zrun"
      obtain ⟨_, e, gd⟩ := fin cells (by omega) len nn 0
      rw [e0] at e
      cases e
      exact ⟨⟨_, gd⟩, rfl⟩
theorem plain_r : ∀ {n : Nat} {d : D}, okL n d = true → F_law_plain (n + 1) [d] = .ok (.v (plainD d)) := by
  intro n
  induction n with
  | zero =>
    intro d h
    cases d <;> first | (unfold F_law_plain f_law_plain; walk_at "zrun"; rfl) | cases h
  | succ n ih =>
    intro d h
    cases d with
    | lst ds =>
      have hl : ds.length ≤ 16777216 := of_decide_eq_true (Bool.and_eq_true_iff.mp (show (decide (ds.length ≤ PySem.sizeLine) && ds.all (okL n)) = true from h)).1
      have h2 : ∀ d ∈ ds, okL n d = true := List.all_eq_true.mp (Bool.and_eq_true_iff.mp (show (decide (ds.length ≤ PySem.sizeLine) && ds.all (okL n)) = true from h)).2
      unfold F_law_plain f_law_plain
      walk_at "zrun"
      simp only [hl, if_true]
      rw [lcGo_map plainD]
      rotate_left
      · intro d hd
        refine Made.of rfl (r := .v (plainD d)) (s2 := [.v (.lst ds), .v d]) ?_ rfl rfl
        unfold e_law_plain_0
        walk_at "zrun"
        rw [ih (h2 d hd)]
        walk_at "zrun"
      walk_at "zrun"
      show _ = Rc.ok (.v (.tup [.bl true, .lst (plainDs ds)]))
      rw [plainDs_map]
    | tup ds =>
      have hl : ds.length ≤ 16777216 := of_decide_eq_true (Bool.and_eq_true_iff.mp (show (decide (ds.length ≤ PySem.sizeLine) && ds.all (okL n)) = true from h)).1
      have h2 : ∀ d ∈ ds, okL n d = true := List.all_eq_true.mp (Bool.and_eq_true_iff.mp (show (decide (ds.length ≤ PySem.sizeLine) && ds.all (okL n)) = true from h)).2
      unfold F_law_plain f_law_plain
      walk_at "zrun"
      simp only [hl, if_true]
      rw [lcGo_map plainD]
      rotate_left
      · intro d hd
        refine Made.of rfl (r := .v (plainD d)) (s2 := [.v (.tup ds), .v d]) ?_ rfl rfl
        unfold e_law_plain_0
        walk_at "zrun"
        rw [ih (h2 d hd)]
        walk_at "zrun"
      walk_at "zrun"
      show _ = Rc.ok (.v (.tup [.bl false, .lst (plainDs ds)]))
      rw [plainDs_map]
    | non => unfold F_law_plain f_law_plain; walk_at "zrun"; rfl
    | bl _ => unfold F_law_plain f_law_plain; walk_at "zrun"; rfl
    | int _ => unfold F_law_plain f_law_plain; walk_at "zrun"; rfl
    | str _ => unfold F_law_plain f_law_plain; walk_at "zrun"; rfl
    | _ => cases h

end

section
variable [CA]
/-! ### texts by their signs -/
abbrev mk (l : List Nat) : Str := ⟨l.toArray⟩
theorem mk_cps (l : List Nat) : (mk l).cps.toList = l := rfl
theorem mk_of (z : Str) : z = mk z.cps.toList := by cases z; rfl
theorem mk_len (l : List Nat) : (mk l).length = l.length := by first | exact List.size_toArray _ | rfl
theorem mk_app (a b : List Nat) : mk a ++ mk b = mk (a ++ b) := TL.ext_tl (by rw [TL.tl_append])
theorem mk_inj {a b : List Nat} : mk a = mk b ↔ a = b := ⟨fun h => by have := congrArg (fun z : Str => z.cps.toList) h; exact this, fun h => by rw [h]⟩
theorem mk_cut (l : List Nat) (lo hi : Option Int) : L2.cutS (mk l) lo hi = mk ((l.drop (HT.sIx l.length 0 lo)).take (HT.sIx l.length l.length hi - HT.sIx l.length 0 lo)) := by
  show (⟨((l.drop (HT.sIx (mk l).length 0 lo)).take (HT.sIx (mk l).length (mk l).length hi - HT.sIx (mk l).length 0 lo)).toArray⟩ : Str) = _
  rw [mk_len]
theorem mk_to {l : List Nat} {k : Nat} : L2.cutS (mk l) none (some (k : Int)) = mk (l.take k) := by
  rw [mk_cut, HT.sIx_none, HT.sIx_nat, List.drop_zero, Nat.sub_zero]
  by_cases h : k ≤ l.length
  · rw [Nat.min_eq_left h]
  · rw [Nat.min_eq_right (by omega), List.take_length, List.take_of_length_le (show l.length ≤ k by omega)]
theorem mk_from {l : List Nat} {k : Nat} : L2.cutS (mk l) (some (k : Int)) none = mk (l.drop k) := by
  rw [mk_cut, HT.sIx_none, HT.sIx_nat]
  by_cases h : k ≤ l.length
  · rw [Nat.min_eq_left h, List.take_of_length_le (by rw [List.length_drop]; omega)]
  · rw [Nat.min_eq_right (by omega), Nat.sub_self, List.take_zero, List.drop_eq_nil_of_le (show l.length ≤ k by omega)]
theorem mk_bt {l : List Nat} {a b : Nat} : L2.cutS (mk l) (some (a : Int)) (some (b : Int)) = mk ((l.drop a).take (b - a)) := by
  rw [mk_cut, HT.sIx_nat, HT.sIx_nat]
  by_cases h : a ≤ l.length
  · rw [Nat.min_eq_left h]
    by_cases h2 : b ≤ l.length
    · rw [Nat.min_eq_left h2]
    · rw [Nat.min_eq_right (by omega)]
      rw [List.take_of_length_le (by rw [List.length_drop]; omega), List.take_of_length_le (by rw [List.length_drop]; omega)]
  · rw [Nat.min_eq_right (by omega : l.length ≤ a), List.drop_length, List.take_nil, List.drop_eq_nil_of_le (by omega), List.take_nil]
theorem mk_rep (l : List Nat) (n : Nat) : repS (mk l) n = mk (List.replicate n l).flatten := rfl
/-- the end without a sign -/
def dropR (c : Nat) (l : List Nat) : List Nat := (l.reverse.dropWhile (fun x => x == c)).reverse
theorem take_sub_rev (p : Nat → Bool) (l : List Nat) : l.take (l.length - (l.reverse.takeWhile p).length) = (l.reverse.dropWhile p).reverse := by
  have h : l.reverse.takeWhile p ++ l.reverse.dropWhile p = l.reverse := List.takeWhile_append_dropWhile
  have h2 : l = (l.reverse.dropWhile p).reverse ++ (l.reverse.takeWhile p).reverse := by
    rw [← List.reverse_append, h, List.reverse_reverse]
  have hl : l.length = (l.reverse.dropWhile p).length + (l.reverse.takeWhile p).length := by
    have := congrArg List.length h2
    rw [List.length_append, List.length_reverse, List.length_reverse] at this
    exact this
  have e : l.length - (l.reverse.takeWhile p).length = ((l.reverse.dropWhile p).reverse).length := by rw [List.length_reverse]; omega
  rw [e]
  conv => lhs; rw [h2]
  rw [List.take_left']
  simp
theorem mk_rstrip (l : List Nat) (c : Nat) : Txt.rstripChars (mk l) (mk [c]) = mk (dropR c l) := by
  have hg : (fun x => (mk [c]).cps.contains x) = fun x => x == c := by
    funext x
    show ([c].toArray).contains x = _
    by_cases h : x = c <;> simp [h]
  have key : mk (l.take (l.length - (l.reverse.takeWhile (fun x => x == c)).length)) = mk (dropR c l) := by rw [take_sub_rev]; rfl
  unfold Txt.rstripChars Txt.stripBy
  have lo : ∀ g : Nat → Bool, stripLo g false (mk l) = 0 := fun g => rfl
  have hi : stripHi (mk [c]).cps.contains true (mk l) 0 = l.length - (l.reverse.takeWhile (fun x => x == c)).length := by
    show (mk l).length - ((l.drop 0).reverse.takeWhile (mk [c]).cps.contains).length = _
    rw [mk_len, List.drop_zero]
    have : (mk [c]).cps.contains = fun x => x == c := hg
    rw [this]
  have sub : Builtin.Str.strSub (mk l) 0 (l.length - (l.reverse.takeWhile (fun x => x == c)).length) = mk (l.take (l.length - (l.reverse.takeWhile (fun x => x == c)).length)) := by
    unfold Builtin.Str.strSub
    congr 1
    apply Array.toList_inj.mp
    simp
  unfold stripSame stripped
  rw [lo, hi, sub, key]
  split
  · rename_i h
    rw [Bool.and_eq_true, beq_iff_eq, beq_iff_eq, mk_len] at h
    rw [← key, h.2, List.take_length]
  · rfl
theorem dropR_snoc (c x : Nat) (l : List Nat) : dropR c (l ++ [x]) = if x = c then dropR c l else l ++ [x] := by
  unfold dropR
  rw [List.reverse_append, List.reverse_singleton, List.singleton_append, List.dropWhile_cons]
  by_cases h : x = c
  · rw [if_pos (by simp [h]), if_pos h]
  · rw [if_neg (by simp [h]), if_neg h, List.reverse_cons, List.reverse_reverse]
theorem dropR_nil (c : Nat) : dropR c [] = [] := rfl
theorem takeW_mem {p : Nat → Bool} : ∀ {l : List Nat} {b : Nat}, b ∈ l.takeWhile p → p b = true
  | a :: l, b, h => by
    rw [List.takeWhile_cons] at h
    split at h
    · rcases List.mem_cons.mp h with rfl | h
      · assumption
      · exact takeW_mem h
    · cases h
theorem dropR_pre (c : Nat) : ∀ l : List Nat, ∃ n, l = dropR c l ++ List.replicate n c := by
  intro l
  refine ⟨(l.reverse.takeWhile (fun x => x == c)).length, ?_⟩
  have h : l.reverse.takeWhile (fun x => x == c) ++ l.reverse.dropWhile (fun x => x == c) = l.reverse := List.takeWhile_append_dropWhile
  have e : l.reverse.takeWhile (fun x => x == c) = List.replicate (l.reverse.takeWhile (fun x => x == c)).length c := by
    apply List.eq_replicate_of_mem
    intro b hb
    have := takeW_mem hb
    exact eq_of_beq this
  have h2 : l = dropR c l ++ (l.reverse.takeWhile (fun x => x == c)).reverse := by
    unfold dropR
    rw [← List.reverse_append, h, List.reverse_reverse]
  conv => lhs; rw [h2]
  congr 1
  conv => lhs; rw [e]
  rw [List.reverse_replicate]
theorem dropR_map (f : Nat → Nat) (a b : Nat) (h : ∀ x, f x = b ↔ x = a) (l : List Nat) : dropR b (l.map f) = (dropR a l).map f := by
  unfold dropR
  rw [← List.map_reverse, List.dropWhile_map, List.map_reverse]
  congr 3
  funext x
  show (f x == b) = (x == a)
  by_cases hx : x = a
  · rw [hx, (h a).mpr rfl]; simp
  · rw [beq_eq_false_iff_ne.mpr hx, beq_eq_false_iff_ne.mpr fun e => hx ((h x).mp e)]
/-! ### slices of lists -/
theorem cutD_to {l : List D} {k : Nat} : cutD l none (some (k : Int)) = l.take k := by
  unfold cutD
  rw [HT.sIx_none, HT.sIx_nat, List.drop_zero, Nat.sub_zero]
  by_cases h : k ≤ l.length
  · rw [Nat.min_eq_left h]
  · rw [Nat.min_eq_right (by omega), List.take_length, List.take_of_length_le (show l.length ≤ k by omega)]
theorem cutD_from {l : List D} {k : Nat} : cutD l (some (k : Int)) none = l.drop k := by
  unfold cutD
  rw [HT.sIx_none, HT.sIx_nat]
  by_cases h : k ≤ l.length
  · rw [Nat.min_eq_left h, List.take_of_length_le (by rw [List.length_drop]; omega)]
  · rw [Nat.min_eq_right (by omega), Nat.sub_self, List.take_zero, List.drop_eq_nil_of_le (show l.length ≤ k by omega)]
theorem cutD_bt {l : List D} {a b : Nat} : cutD l (some (a : Int)) (some (b : Int)) = (l.drop a).take (b - a) := by
  unfold cutD
  rw [HT.sIx_nat, HT.sIx_nat]
  by_cases h : a ≤ l.length
  · rw [Nat.min_eq_left h]
    by_cases h2 : b ≤ l.length
    · rw [Nat.min_eq_left h2]
    · rw [Nat.min_eq_right (by omega)]
      rw [List.take_of_length_le (by rw [List.length_drop]; omega), List.take_of_length_le (by rw [List.length_drop]; omega)]
  · rw [Nat.min_eq_right (by omega : l.length ≤ a), List.drop_length, List.take_nil, List.drop_eq_nil_of_le (by omega), List.take_nil]
/-! ### numbers drawn -/
theorem dvn {s : GS} {n : Nat} (h : 1 ≤ n ∧ n < 1073741824) : ∃ m : Nat, m < n ∧ dv s (n : Int) = (m : Int) := by
  have h' : 1 ≤ (n : Int) ∧ (n : Int) < 1073741824 := by omega
  have h0 := dv_nn (s := s) h'
  have h1 := dv_lt (s := s) h'
  exact ⟨(dv s (n : Int)).toNat, by omega, (Int.toNat_of_nonneg h0).symm⟩
/-! ### lists of numbers -/
def nD (r : List Nat) : List D := r.map fun c : Nat => .int (c : Int)
theorem nD_len (r : List Nat) : (nD r).length = r.length := by simp [nD]
theorem nD_app (r s : List Nat) : nD (r ++ s) = nD r ++ nD s := by simp [nD]
theorem nD_get {r : List Nat} {k c : Nat} (h : r[k]? = some c) : (nD r)[k]? = some (.int (c : Int)) := by simp [nD, h]
theorem nD_take {r : List Nat} {k : Nat} : (nD r).take k = nD (r.take k) := by unfold nD; rw [List.map_take]
theorem nD_drop {r : List Nat} {k : Nat} : (nD r).drop k = nD (r.drop k) := by unfold nD; rw [List.map_drop]
theorem at_nat {α : Type} {ds : List α} {k : Nat} {d : α} (h : ds[k]? = some d) : L2.atI ds (k : Int) = some d := L2.atI_nat h
theorem range_at {n : Nat} {pre post : List Nat} {a : Nat} (e : List.range n = pre ++ a :: post) : pre.length = a ∧ a < n := by
  have h1 : (List.range n)[pre.length]? = some a := by rw [e]; simp
  have h2 : pre.length < n := by
    have := congrArg List.length e
    simp at this
    omega
  rw [List.getElem?_range h2] at h1
  have h1 := Option.some.inj h1
  omega
theorem pAll_bls {bs : List Bool} : pAll [.lst (bs.map .bl)] = some (.v (.bl (bs.all id))) := by
  show (asBls (bs.map .bl)).map _ = _
  rw [asBls_map]; rfl

end

section
variable [CA]
/-! ### the table -/
def nmS (k : Nat) : Str := ks_NUMBERS.getD k ""
def FM : List Nat := [2, 0, 0, 0, 0, 0, 0, 0, 0, 0, 0, 0, 1, 2, 1, 2, 1, 2, 0, 0, 0, 2, 2, 0, 0, 0, 2]
def fm (k : Nat) : Nat := FM.getD k 0
def SH : List D := [(.str "go short"), (.str "unless short"), (.str "call short")]
def TW : List D := [(.str "push"), (.str "go wide"), (.str "unless wide"), (.str "call wide"), (.str "far"), (.str "bring"), (.str "hop")]
/-- what is asked of a name -/
structure Nm (z : Str) (k : Nat) : Prop where
  num : dgS ks_NUMBERS ds_NUMBERS z = some (.int ((k : Int) + 1))
  sh : inD (.str z) [(.str "go short"), (.str "unless short"), (.str "call short")] = decide (fm k = 1)
  tw : inD (.str z) [(.str "push"), (.str "go wide"), (.str "unless wide"), (.str "call wide"), (.str "far"), (.str "bring"), (.str "hop")] = decide (fm k = 2)
theorem fl_sh : [(.str "go short"), (.str "unless short"), (.str "call short")].all flat1 = true := by kernel_rfl
theorem fl_tw : [(.str "push"), (.str "go wide"), (.str "unless wide"), (.str "call wide"), (.str "far"), (.str "bring"), (.str "hop")].all flat1 = true := by kernel_rfl
theorem fl_str (z : Str) : flat1 (.str z) = true := by first | rfl | simp [flat1]
theorem nm_k (k : Nat) (h : k < 27) : Nm (nmS k) k := by
  have h1 : ∀ k, k < 27 → (match dgS ks_NUMBERS ds_NUMBERS (nmS k) with | some (.int i) => decide (i = (k : Int) + 1) | _ => false) = true := by decide +kernel
  have h1 : dgS ks_NUMBERS ds_NUMBERS (nmS k) = some (.int ((k : Int) + 1)) := by
    have q := h1 k h
    split at q
    · rename_i i e
      rw [e, of_decide_eq_true q]
    · cases q
  have h2 : ∀ k, k < 27 → inD (.str (nmS k)) [(.str "go short"), (.str "unless short"), (.str "call short")] = decide (fm k = 1) := by decide +kernel
  have h3 : ∀ k, k < 27 → inD (.str (nmS k)) [(.str "push"), (.str "go wide"), (.str "unless wide"), (.str "call wide"), (.str "far"), (.str "bring"), (.str "hop")] = decide (fm k = 2) := by decide +kernel
  exact ⟨h1, h2 k h, h3 k h⟩
theorem fm_cases (k : Nat) : fm k = 0 ∨ fm k = 1 ∨ fm k = 2 := by
  by_cases h : k < 27
  · have : ∀ k, k < 27 → (fm k = 0 ∨ fm k = 1 ∨ fm k = 2) := by decide +kernel
    exact this k h
  · left
    unfold fm
    rw [List.getD_eq_getElem?_getD, List.getElem?_eq_none (by show 27 ≤ k; omega)]
    rfl
/-! ### code_words -/
theorem isnum_r (i : Int) : F_is_number [.int i] = .ok (.v (.bl true)) := by
  unfold F_is_number f_is_number
  walk_at "zrun"
theorem isnum_b (b : Bool) : F_is_number [.bl b] = .ok (.v (.bl false)) := by
  unfold F_is_number f_is_number
  walk_at "zrun"
theorem isnum_s (z : Str) : F_is_number [.str z] = .ok (.v (.bl false)) := by
  unfold F_is_number f_is_number
  walk_at "zrun"
theorem isnum_n : F_is_number [.non] = .ok (.v (.bl false)) := by
  unfold F_is_number f_is_number
  walk_at "zrun"
def isW : D → Bool
  | .int i => decide (0 ≤ i) && decide (i ≤ 65535)
  | _ => false
def isS : D → Bool
  | .int i => decide (-128 ≤ i) && decide (i ≤ 127)
  | _ => false
inductive Opd : D → Prop
  | int (i : Int) : Opd (.int i)
  | bl (b : Bool) : Opd (.bl b)
  | str (z : Str) : Opd (.str z)
  | non : Opd .non
theorem isword_r {d : D} (h : Opd d) : F_is_word [d] = .ok (.v (.bl (isW d))) := by
  unfold F_is_word f_is_word
  cases h with
  | int i =>
    walk_at "zrun"
    rw [isnum_r]
    walk_at "zrun"
    rfl
  | bl b =>
    walk_at "zrun"
    rw [isnum_b]
    walk_at "zrun"
    rfl
  | str z =>
    walk_at "zrun"
    rw [isnum_s]
    walk_at "zrun"
    rfl
  | non =>
    walk_at "zrun"
    rw [isnum_n]
    walk_at "zrun"
    rfl
def bad (p : Int) : Rc := .ex ⟨1, ["place"], [.int p]⟩
/-- what code_words gives for a name that is one -/
def cw (k : Nat) (ops : List D) : Rc :=
  if fm k = 0 then (if ops.length = 0 then .ok (.v (.tup [.int (256 * ((k : Int) + 1))])) else bad 0)
  else match ops with
    | [d] => if fm k = 1 then
        (match d with
        | .int i => if isS d = true then .ok (.v (.tup [.int (256 * ((k : Int) + 1) + i % 256)])) else bad 1
        | _ => bad 1)
      else if isW d = true then .ok (.v (.tup [.int (256 * ((k : Int) + 1)), d])) else bad 1
    | _ => bad 0
theorem len2 (n : Nat) : ((n + 1 + 1 : Nat) : Int) ≠ 0 ∧ ((n + 1 + 1 : Nat) : Int) ≠ 1 := by omega
theorem cw_r {z : Str} {k : Nat} (N : Nm z k) {ops : List D} (ho : ∀ d ∈ ops, Opd d) : F_code_words [.str z, .tup ops] = cw k ops := by
  unfold F_code_words f_code_words
  have i1 := N.sh
  have i2 := N.tw
  unfold cw
  rcases fm_cases k with h | h | h <;> simp only [h] at i1 i2 ⊢
  · walk_at "zrun"
    try simp only [N.num]
    walk_at "zrun"
    rw [if_pos ⟨fl_str z, fl_sh⟩, i1]
    walk_at "zrun"
    rw [if_pos ⟨fl_str z, fl_tw⟩, i2]
    walk_at "zrun"
    match ops, ho with
    | [], _ =>
      walk_at "zrun"
      try simp only [N.num]
      walk_at "zrun"
    | [d], _ => walk_at "zrun"; rfl
    | _ :: _ :: r, _ =>
      walk_at "zrun"
      rw [if_pos (len2 r.length).1]
      walk_at "zrun"
      rfl
  · walk_at "zrun"
    try simp only [N.num]
    walk_at "zrun"
    rw [if_pos ⟨fl_str z, fl_sh⟩, i1]
    walk_at "zrun"
    match ops, ho with
    | [], _ => walk_at "zrun"; rfl
    | _ :: _ :: r, _ =>
      walk_at "zrun"
      rw [if_pos (len2 r.length).2]
      walk_at "zrun"
      rfl
    | [d], ho =>
      walk_at "zrun"
      try simp only [N.num]
      walk_at "zrun"
      rw [if_pos ⟨fl_str z, fl_sh⟩, i1]
      walk_at "zrun"
      cases ho d (.head _) with
      | int i =>
        rw [isnum_r]
        walk_at "zrun"
        unfold isS
        by_cases h1 : -128 ≤ i
        · by_cases h2 : i ≤ 127
          · simp only [h1, h2]
            walk_at "zrun"
          · simp only [h1, h2]
            walk_at "zrun"
            rfl
        · simp only [h1]
          walk_at "zrun"
          rfl
      | bl b => rw [isnum_b]; walk_at "zrun"; rfl
      | str z => rw [isnum_s]; walk_at "zrun"; rfl
      | non => rw [isnum_n]; walk_at "zrun"; rfl
  · walk_at "zrun"
    try simp only [N.num]
    walk_at "zrun"
    rw [if_pos ⟨fl_str z, fl_sh⟩, i1]
    walk_at "zrun"
    rw [if_pos ⟨fl_str z, fl_tw⟩, i2]
    walk_at "zrun"
    match ops, ho with
    | [], _ => walk_at "zrun"; rfl
    | _ :: _ :: r, _ =>
      walk_at "zrun"
      rw [if_pos (len2 r.length).2]
      walk_at "zrun"
      rfl
    | [d], ho =>
      walk_at "zrun"
      try simp only [N.num]
      walk_at "zrun"
      rw [if_pos ⟨fl_str z, fl_sh⟩, i1]
      walk_at "zrun"
      rw [isword_r (ho d (.head _))]
      walk_at "zrun"
      cases isW d with
      | true => walk_at "zrun"
      | false => walk_at "zrun"; rfl
/-- a thing that is no name -/
inductive Odd : D → Prop
  | str {z : Str} (h : dgS ks_NUMBERS ds_NUMBERS z = none) : Odd (.str z)
  | int (i : Int) : Odd (.int i)
  | non : Odd .non
theorem cw_odd {d : D} (h : Odd d) (ops : List D) : F_code_words [d, .tup ops] = bad 0 := by
  unfold F_code_words f_code_words
  cases h with
  | str h =>
    walk_at "zrun"
    simp only [h]
    walk_at "zrun"
    rfl
  | int i => walk_at "zrun"; rfl
  | non => walk_at "zrun"; rfl

end

section
variable [CA]
/-! ### the law's table -/
def NL : List D := ks_NUMBERS.map .str
def DBL : List D := [(.str "push"), (.str "go wide"), (.str "unless wide"), (.str "call wide"), (.str "far"), (.str "bring"), (.str "hop")]
def rowD (k : Nat) : D := .tup [.str (nmS k), .int ((k : Int) + 1), .int (fm k : Nat)]
theorem NL_len : NL.length = 27 := by kernel_rfl
theorem NL_get {k : Nat} (h : k < 27) : NL[k]? = some (.str (nmS k)) := by
  unfold NL nmS
  rw [List.getElem?_map, List.getD_eq_getElem?_getD]
  have : k < ks_NUMBERS.length := by show k < 27; exact h
  rw [List.getElem?_eq_getElem this]
  rfl
theorem tab_step {k : Nat} (h : k < 27) (rows : List D) (hl : rows.length ≤ 100) (t : Nat) (x : Sl) :
    b_law_table_0 [.v (.lst NL), .v (.lst DBL), .o t (.lst rows), .v (.int (k : Int)), x] = .nx [.v (.lst NL), .v (.lst DBL), .o t (.lst (rows ++ [rowD k])), .v (.int (k : Int)), .v (.int (fm k : Nat))] := by
  have h1 : ∀ k, k < 27 → inD (.str (nmS k)) DBL = decide (fm k = 2) := by decide +kernel
  have h2 : ∀ k, k < 27 → (nmS k).length ≤ 16777216 := by decide +kernel
  have h3 : ∀ k, k < 27 → decide (L2.cutS (nmS k) (some (-6)) none = (" short" : Str)) = decide (fm k = 1) := by decide +kernel
  have i1 := h1 k h
  have i2 := h2 k h
  have i3 : (L2.cutS (nmS k) (some (-6)) none = (" short" : Str)) ↔ (fm k = 1) := decide_eq_decide.mp (h3 k h)
  unfold b_law_table_0
  walk_at "zrun"
  rw [at_nat (NL_get h)]
  walk_at "zrun"
  rw [if_pos ⟨fl_str _, show DBL.all flat1 = true from fl_tw⟩, i1]
  walk_at "zrun"
  have hr : rows.length < 16777216 := by omega
  rcases fm_cases k with e | e | e <;> rw [e] at i3 <;> simp only [e] <;> walk_at "zrun" <;> rw [at_nat (NL_get h)] <;> walk_at "zrun" <;> rw [if_pos i2] <;> walk_at "zrun" <;> simp only [i3] <;> walk_at "zrun" <;> rw [at_nat (NL_get h)] <;> walk_at "zrun" <;> rw [if_pos hr] <;> walk_at "zrun" <;> unfold rowD <;> rw [e] <;> rfl
def ROWS : List D := (List.range 27).map rowD
theorem table_r : F_law_table [] = .ok (.o 0 (.lst ROWS)) := by
  unfold F_law_table f_law_table
  walk_at "zrun"
  obtain ⟨s', e1, x, y, hx⟩ := forGo_invA (g := tgN 3) (b := b_law_table_0) (fun k : Nat => D.int (k : Int)) (fun pre s => ∃ x y, s = [.v (.lst NL), .v (.lst DBL), .o 0 (.lst (pre.map rowD)), x, y]) (as := List.range 27) (fun pre k post e s ⟨x, y, hs⟩ => by
    obtain ⟨hp, hk⟩ := range_at e
    subst hs
    refine ⟨_, .nx rfl (tab_step (k := k) hk _ (by rw [List.length_map]; omega) _ _), .v (.int (k : Int)), .v (.int (fm k : Nat)), by rw [List.map_append]; rfl⟩) ⟨_, _, rfl⟩ (s := [.v (.lst NL), .v (.lst DBL), .o 0 (.lst []), .no, .no])
  subst hx
  refine (congrArg (fun m : Rs => rpK (m.thn (blk [retF (mv 2)]))) (show _ = _ from e1)).trans ?_
  walk_at "zrun"
  rfl
/-! ### decoded -/
def ioN : List Str → List D → Int → Option Str
  | z :: ks, .int j :: ds, m => if j = m then some z else ioN ks ds m
  | _, _, _ => none
theorem io_loop (m : Int) : ∀ (ks : List Str) (ns : List Int) (x y : Sl), ∃ x' y', forGo (tgP 1 2) b_instruction_of_0 (prD ks (ns.map .int)) [.v (.int m), x, y] =
    match ioN ks (ns.map .int) m with | some z => .rt (.v (.str z)) [.v (.int m), x', y'] | none => .nx [.v (.int m), x', y']
  | [], ns, x, y => ⟨x, y, by cases ns <;> rfl⟩
  | z :: ks, [], x, y => ⟨x, y, rfl⟩
  | z :: ks, j :: ns, x, y => by
    have key : ioN (z :: ks) ((j :: ns).map .int) m = if j = m then some z else ioN ks (ns.map .int) m := rfl
    rw [key]
    have e2 : prD (z :: ks) ((j :: ns).map .int) = .tup [.str z, .int j] :: prD ks (ns.map .int) := rfl
    rw [e2]
    by_cases h : j = m
    · subst h
      refine ⟨.v (.str z), .v (.int j), ?_⟩
      rw [if_pos rfl, forGo_left (.rt (s1 := [.v (.int j), .v (.str z), .v (.int j)]) (s2 := [.v (.int j), .v (.str z), .v (.int j)]) (r := .v (.str z)) rfl ?_)]
      unfold b_instruction_of_0
      walk_at "zrun"
    · obtain ⟨x', y', e⟩ := io_loop m ks ns (.v (.str z)) (.v (.int j))
      refine ⟨x', y', ?_⟩
      rw [if_neg h, forGo_turn (.nx (s1 := [.v (.int m), .v (.str z), .v (.int j)]) (s2 := [.v (.int m), .v (.str z), .v (.int j)]) rfl ?_), e]
      unfold b_instruction_of_0
      walk_at "zrun"
      rw [if_neg h]
def ioD (m : Int) : D := match ioN ks_NUMBERS ds_NUMBERS m with | some z => .str z | none => .non
def NS : List Int := [1, 2, 3, 4, 5, 6, 7, 8, 9, 10, 11, 12, 13, 14, 15, 16, 17, 18, 19, 20, 21, 22, 23, 24, 25, 26, 27]
theorem ds_NS : ds_NUMBERS = NS.map .int := rfl
theorem io_r (m : Int) : F_instruction_of [.int m] = .ok (.v (ioD m)) := by
  unfold F_instruction_of f_instruction_of ioD
  walk_at "zrun"
  obtain ⟨x, y, e⟩ := io_loop m ks_NUMBERS NS .no .no
  rw [ds_NS, e]
  cases ioN ks_NUMBERS (NS.map .int) m with
  | none => walk_at "zrun"
  | some z => walk_at "zrun"
theorem io_k {k : Nat} (h : k < 27) : ioD ((k : Int) + 1) = .str (nmS k) := by
  have h1 : ∀ k : Nat, k < 27 → ioN ks_NUMBERS ds_NUMBERS ((k : Int) + 1) = some (nmS k) := by decide +kernel
  unfold ioD
  rw [h1 k h]
theorem io_no {m : Int} (h : m < 1 ∨ 27 < m) : ioD m = .non := by
  have : ioN ks_NUMBERS ds_NUMBERS m = none := by
    unfold ks_NUMBERS ds_NUMBERS
    simp only [ioN]
    repeat rw [if_neg (by omega)]
  unfold ioD
  rw [this]
def dec1 (k : Nat) (low : Int) (rest : List D) : D :=
  if fm k = 1 then .tup [.str (nmS k), .tup [.int (if low > 127 then low - 256 else low)]]
  else if low = 0 then (if fm k = 0 then .tup [.str (nmS k), .tup []] else match rest with | [] => .non | d :: _ => .tup [.str (nmS k), .tup [d]])
  else .non
theorem dec_r {k : Nat} (hk : k < 27) {w0 : Int} (h : w0 / 256 = (k : Int) + 1) (rest : List D) : F_decoded [.tup (.int w0 :: rest)] = .ok (.v (dec1 k (w0 % 256) rest)) := by
  have N := nm_k k hk
  have i1 := N.sh
  have i2 := N.tw
  unfold F_decoded f_decoded
  walk_at "zrun"
  rw [if_neg (by omega)]
  walk_at "zrun"
  rw [h, io_r, io_k hk]
  walk_at "zrun"
  rw [if_pos ⟨fl_str _, fl_sh⟩, i1]
  walk_at "zrun"
  unfold dec1
  generalize w0 % 256 = low
  rcases fm_cases k with e | e | e <;> simp only [e] at i2 ⊢
  · walk_at "zrun"
    by_cases hl : low = 0
    · subst hl
      walk_at "zrun"
      rw [if_pos ⟨fl_str _, fl_tw⟩, i2]
      walk_at "zrun"
    · rw [if_pos hl, if_neg hl]
      walk_at "zrun"
  · walk_at "zrun"
    by_cases hl : low > 127
    · have hl2 : 127 < low := hl
      rw [if_pos hl, if_pos hl2]
      walk_at "zrun"
    · have hl2 : ¬ 127 < low := hl
      rw [if_neg hl, if_neg hl2]
      walk_at "zrun"
  · walk_at "zrun"
    by_cases hl : low = 0
    · subst hl
      walk_at "zrun"
      rw [if_pos ⟨fl_str _, fl_tw⟩, i2]
      walk_at "zrun"
      cases rest with
      | nil => walk_at "zrun"
      | cons d r =>
        rw [if_neg (by rw [List.length_cons]; omega)]
        walk_at "zrun"
    · rw [if_pos hl, if_neg hl]
      walk_at "zrun"
theorem dec_no {w0 : Int} (h : w0 / 256 < 1 ∨ 27 < w0 / 256) (rest : List D) : F_decoded [.tup (.int w0 :: rest)] = .ok (.v .non) := by
  unfold F_decoded f_decoded
  walk_at "zrun"
  rw [if_neg (by omega)]
  walk_at "zrun"
  rw [io_r, io_no h]
  walk_at "zrun"
theorem dec_0 : F_decoded [.tup []] = .ok (.v .non) := by
  unfold F_decoded f_decoded
  walk_at "zrun"

end

section
variable [CA]
/-! ### there and back -/
theorem word_ex (s : GS) : ∃ (w : Int) (s' : GS), F_law_word (gc s) [] = .ok (.v (.int w)) (gc s') ∧ 0 ≤ w ∧ w ≤ 65535 := by
  unfold F_law_word f_law_word
  walk_at "zrun"
  obtain ⟨w, hw, ew⟩ : ∃ m : Nat, m < 4 ∧ dv s 4 = (m : Int) := dvn (n := 4) (by decide)
  rw [draw_r (by decide), ew]
  walk_at "zrun"
  generalize dn s 4 = s1
  by_cases h : (w : Int) < 2
  · rw [if_pos h]
    walk_at "zrun"
    obtain ⟨x, hx, ex⟩ : ∃ m : Nat, m < 10 ∧ dv s1 10 = (m : Int) := dvn (n := 10) (by decide)
    rw [draw_r (by decide), ex]
    walk_at "zrun"
    exact ⟨_, _, rfl, by omega, by omega⟩
  · rw [if_neg h]
    walk_at "zrun"
    by_cases h2 : (w : Int) = 2
    · rw [if_pos h2]
      walk_at "zrun"
      obtain ⟨x, hx, ex⟩ : ∃ m : Nat, m < 65536 ∧ dv s1 65536 = (m : Int) := dvn (n := 65536) (by decide)
      rw [draw_r (by decide), ex]
      walk_at "zrun"
      exact ⟨_, _, rfl, by omega, by omega⟩
    · rw [if_neg h2]
      walk_at "zrun"
      obtain ⟨x, hx, ex⟩ : ∃ m : Nat, m < 3 ∧ dv s1 3 = (m : Int) := dvn (n := 3) (by decide)
      rw [draw_r (by decide), ex]
      walk_at "zrun"
      exact ⟨_, _, rfl, by omega, by omega⟩
/-- the words that are due -/
def dueL (k : Nat) (o : Int) : List D :=
  if fm k = 0 then [.int (256 * ((k : Int) + 1))]
  else if fm k = 1 then [.int (256 * ((k : Int) + 1) + o % 256)]
  else [.int (256 * ((k : Int) + 1)), .int o]
def backD (k : Nat) (o : Int) : D := .tup [.str (nmS k), .tup (if fm k = 0 then [] else [.int o])]
def Fit (k : Nat) (o : Int) : Prop := fm k = 0 ∨ (fm k = 1 ∧ -128 ≤ o ∧ o ≤ 127) ∨ (fm k = 2 ∧ 0 ≤ o ∧ o ≤ 65535)
theorem due_r (k : Nat) (o : Int) : F_law_due [.int ((k : Int) + 1), .int (fm k : Nat), .int o] = .ok (.v (.tup (dueL k o))) := by
  unfold F_law_due f_law_due dueL
  rcases fm_cases k with e | e | e <;> simp only [e] <;> walk_at "zrun"
theorem cw_fit {k : Nat} {o : Int} (h : Fit k o) : cw k (if fm k = 0 then [] else [.int o]) = .ok (.v (.tup (dueL k o))) := by
  unfold cw dueL
  rcases h with e | ⟨e, h1, h2⟩ | ⟨e, h1, h2⟩
  · simp [e]
  · simp [e, isS, h1, h2]
  · simp [e, isW, h1, h2]
theorem div_k (k : Nat) (o : Int) : (256 * ((k : Int) + 1) + o % 256) / 256 = (k : Int) + 1 ∧ (256 * ((k : Int) + 1) + o % 256) % 256 = o % 256 ∧ (256 * ((k : Int) + 1)) / 256 = (k : Int) + 1 ∧ (256 * ((k : Int) + 1)) % 256 = 0 := by omega
theorem dec_fit {k : Nat} (hk : k < 27) {o : Int} (h : Fit k o) (bh : List D) : F_decoded [.tup (dueL k o ++ bh)] = .ok (.v (backD k o)) := by
  obtain ⟨a1, a2, a3, a4⟩ := div_k k o
  unfold dueL backD
  rcases h with e | ⟨e, h1, h2⟩ | ⟨e, h1, h2⟩
  · rw [if_pos e, List.singleton_append, dec_r hk a3, a4]
    unfold dec1
    simp [e]
  · rw [if_neg (by omega), if_pos e, List.singleton_append, dec_r hk a1, a2]
    unfold dec1
    have : (if o % 256 > 127 then o % 256 - 256 else o % 256) = o := by
      split <;> omega
    simp [e, this]
  · rw [if_neg (by omega), if_neg (by omega), List.cons_append, dec_r hk a3, a4]
    unfold dec1
    simp [e]
theorem dec_cut {k : Nat} (hk : k < 27) {o : Int} (e : fm k = 2) : F_decoded [.tup ((dueL k o).take 1)] = .ok (.v .non) := by
  obtain ⟨a1, a2, a3, a4⟩ := div_k k o
  unfold dueL
  rw [if_neg (by omega), if_neg (by omega)]
  show F_decoded [.tup [.int (256 * ((k : Int) + 1))]] = _
  rw [dec_r hk a3, a4]
  unfold dec1
  simp [e]
theorem nm_ok (k : Nat) (h : k < 27) : PySem.PyData.strOk (nmS k) = true := by
  have : ∀ k, k < 27 → PySem.PyData.strOk (nmS k) = true := by decide +kernel
  exact this k h
theorem due_ok (k : Nat) (o : Int) : okL 11 (.tup (dueL k o)) = true := by
  unfold dueL
  split
  · rfl
  · split <;> rfl
theorem back_ok {k : Nat} (hk : k < 27) (o : Int) : okL 11 (backD k o) = true := by
  unfold backD
  refine okL_tup (n := 10) (by simp) ?_
  split
  · simp only [List.all_cons, List.all_nil, okL_str (nm_ok k hk), Bool.and_true, Bool.true_and]; rfl
  · simp only [List.all_cons, List.all_nil, okL_str (nm_ok k hk), Bool.and_true, Bool.true_and]; rfl
theorem dueL_len (k : Nat) (o : Int) : (dueL k o).length ≤ 2 := by
  unfold dueL
  split
  · simp
  · split <;> simp
theorem tb_step {k : Nat} (hk : k < 27) {o : Int} (h : Fit k o) (bh : List D) (hb : bh.length ≤ 3) (c0 c4 c6 x y z : Sl) :
    b_law_there_and_back_1 [c0, .v (.str (nmS k)), .v (.int ((k : Int) + 1)), .v (.int (fm k : Nat)), c4, .v (.tup bh), c6, .v (.int o), x, y, z] =
      .nx [c0, .v (.str (nmS k)), .v (.int ((k : Int) + 1)), .v (.int (fm k : Nat)), c4, .v (.tup bh), c6, .v (.int o), .v (.tup (dueL k o)), .v (backD k o), .v (.tup (dueL k o))] := by
  have q1 : F_law_plain 12 [.tup (dueL k o)] = .ok (.v (plainD (.tup (dueL k o)))) := plain_r (n := 11) (due_ok k o)
  have q2 : F_law_plain 12 [backD k o] = .ok (.v (plainD (backD k o))) := plain_r (n := 11) (back_ok hk o)
  have n1 : pNe [plainD (.tup (dueL k o)), plainD (.tup (dueL k o))] = some (.v (.bl false)) := pNe_self (okB_plain64 (due_ok k o) (by decide))
  have n2 : pNe [plainD (backD k o), plainD (backD k o)] = some (.v (.bl false)) := pNe_self (okB_plain64 (back_ok hk o) (by decide))
  have c1 := cw_r (nm_k k hk) (ops := if fm k = 0 then [] else [.int o]) (by split <;> simp [Opd.int])
  have c2 := cw_fit h
  have d1 := dec_fit hk h []
  have d2 := dec_fit hk h bh
  have l2 := dueL_len k o
  rw [List.append_nil] at d1
  rw [c2] at c1
  clear c2
  unfold b_law_there_and_back_1
  walk_at "zrun"
  rw [due_r]
  walk_at "zrun"
  have fin : (fm k = 0 ∧ backD k o = .tup [.str (nmS k), .tup []]) ∨ (fm k ≠ 0 ∧ backD k o = .tup [.str (nmS k), .tup [.int o]]) := by
    unfold backD
    by_cases e : fm k = 0
    · simp [e]
    · simp [e]
  rcases fin with ⟨e, eb⟩ | ⟨e, eb⟩
  · rw [if_pos e] at c1
    have e' : ((fm k : Nat) : Int) = 0 := by omega
    rw [if_pos e']
    walk_at "zrun"
    rw [c1]
    walk_at "zrun"
    rw [← eb]
    walk_at "zrun"
    rw [q1]
    walk_at "zrun"
    rw [q1]
    walk_at "zrun"
    rw [n1]
    walk_at "zrun"
    rw [d1]
    walk_at "zrun"
    rw [q2]
    walk_at "zrun"
    rw [q2]
    walk_at "zrun"
    rw [n2]
    walk_at "zrun"
    rw [if_pos (by omega)]
    walk_at "zrun"
    rw [d2]
    walk_at "zrun"
    rw [q2]
    walk_at "zrun"
    rw [q2]
    walk_at "zrun"
    rw [n2]
    walk_at "zrun"
    simp only [e]
    walk_at "zrun"
  · rw [if_neg e] at c1
    have e' : ¬ ((fm k : Nat) : Int) = 0 := by omega
    rw [if_neg e']
    walk_at "zrun"
    rw [c1]
    walk_at "zrun"
    rw [q1]
    walk_at "zrun"
    rw [q1]
    walk_at "zrun"
    rw [n1]
    walk_at "zrun"
    rw [d1]
    walk_at "zrun"
    rw [← eb]
    walk_at "zrun"
    rw [q2]
    walk_at "zrun"
    rw [q2]
    walk_at "zrun"
    rw [n2]
    walk_at "zrun"
    rw [if_pos (by omega)]
    walk_at "zrun"
    rw [d2]
    walk_at "zrun"
    rw [q2]
    walk_at "zrun"
    rw [q2]
    walk_at "zrun"
    rw [n2]
    walk_at "zrun"
    by_cases e2 : fm k = 2
    · have e2' : ((fm k : Nat) : Int) = 2 := by omega
      rw [if_pos e2']
      walk_at "zrun"
      rw [show (1 : Int) = ((1 : Nat) : Int) from rfl, cutD_to, dec_cut hk e2]
      walk_at "zrun"
    · have e2' : ¬ ((fm k : Nat) : Int) = 2 := by omega
      rw [if_neg e2']
      walk_at "zrun"

end

section
variable [CA]
theorem choices_go {k : Nat} (hk : k < 27) (bh : List D) (hb : bh.length ≤ 3) (c0 c4 c6 : Sl) : ∀ (os : List Int) (x y z w : Sl), (∀ o ∈ os, Fit k o) →
    ∃ x' y' z' w', forGo (tgN 7) b_law_there_and_back_1 (os.map .int) [c0, .v (.str (nmS k)), .v (.int ((k : Int) + 1)), .v (.int (fm k : Nat)), c4, .v (.tup bh), c6, x, y, z, w] =
      .nx [c0, .v (.str (nmS k)), .v (.int ((k : Int) + 1)), .v (.int (fm k : Nat)), c4, .v (.tup bh), c6, x', y', z', w']
  | [], x, y, z, w, _ => ⟨x, y, z, w, rfl⟩
  | o :: os, x, y, z, w, h => by
    obtain ⟨x', y', z', w', e⟩ := choices_go hk bh hb c0 c4 c6 os (.v (.int o)) (.v (.tup (dueL k o))) (.v (backD k o)) (.v (.tup (dueL k o))) (fun o ho => h o (.tail _ ho))
    refine ⟨x', y', z', w', ?_⟩
    rw [List.map_cons, forGo_turn (.nx rfl (tb_step hk (h o (.head _)) bh hb c0 c4 c6 y z w)), e]
noncomputable def TB : Sx → Rs := blk [(asgZ 5 (opF pTuple (aE (lcF [6] (tgN 6) (rg1F (aE (callM 2 F_law_draw 0 (aE (cst (.int 3)) aN)) aN)) none (e_law_there_and_back_0)) aN))),
  (forF (tgN 7) (itF (fz 4)) (b_law_there_and_back_1)),
  (retF (cst (.bl true)))]
theorem tb_cut : f_law_there_and_back = blk [(asgZ 4 (opF pLst (aE (cst (.int 0)) aN))),
  (ifF (tOpF pEq (aS 3 (aE (cst (.int 1)) aN))) (blk [(asgZ 4 (opF pLst (aE (opF pNeg (aE (cst (.int 128)) aN)) (aE (opF pNeg (aE (cst (.int 1)) aN)) (aE (cst (.int 0)) (aE (cst (.int 127)) (aE (opF pSub (aE (callM 2 F_law_draw 0 (aE (cst (.int 256)) aN)) (aE (cst (.int 128)) aN))) aN)))))))]) (blk [])),
  (ifF (tOpF pEq (aS 3 (aE (cst (.int 2)) aN))) (blk [(asgZ 4 (opF pLst (aE (cst (.int 0)) (aE (cst (.int 65535)) (aE (callM 1 F_law_word 0 aN) aN)))))]) (blk [])), TB] := (blk_app _ [_, _, _]).symm
theorem behind_ex (s : GS) (n : Nat) (c1 c2 c3 c4 c5 : Sl) (h7 h8 h9 h10 : Sl) : ∃ (xs : List D) (s' : GS), lcGo [6] (tgN 6) none e_law_there_and_back_0 ((List.range n).map fun i : Nat => D.int (i : Int)) [.o 1 (gc s), c1, c2, c3, c4, c5, .no, h7, h8, h9, h10] = some (xs, [.o 1 (gc s'), c1, c2, c3, c4, c5, .no, h7, h8, h9, h10]) ∧ xs.length = n := by
  obtain ⟨xs, s', e1, e2, σ, e3⟩ := lcGo_invA (vs := [6]) (g := tgN 6) (e := e_law_there_and_back_0) (fun i : Nat => D.int (i : Int)) (fun _ S => ∃ σ : GS, S = [.o 1 (gc σ), c1, c2, c3, c4, c5, .no, h7, h8, h9, h10]) (as := List.range n) (fun a _ acc S ⟨σ, hS⟩ => by
    subst hS
    obtain ⟨w, σ', ew, _, _⟩ := word_ex σ
    refine ⟨.int w, _, Made.of (s2 := [.o 1 (gc σ'), c1, c2, c3, c4, c5, .v (.int (a : Int)), h7, h8, h9, h10]) rfl (?_ : e_law_there_and_back_0 [.o 1 (gc σ), c1, c2, c3, c4, c5, .v (.int (a : Int)), h7, h8, h9, h10] = .ok (.v (.int w)) _) rfl rfl, σ', rfl⟩
    unfold e_law_there_and_back_0
    walk_at "zrun"
    rw [ew]
    walk_at "zrun"
    ) ⟨s, rfl⟩
  subst e3
  exact ⟨xs, σ, e1, by rw [e2, List.length_range]⟩
theorem TB_r (s : GS) {k : Nat} (hk : k < 27) (os : List Int) (h : ∀ o ∈ os, Fit k o) : ∃ s' : GS, rmR (TB [.o 1 (gc s), .v (.str (nmS k)), .v (.int ((k : Int) + 1)), .v (.int (fm k : Nat)), .v (.lst (os.map .int)), .no, .no, .no, .no, .no, .no]) = .ok (.v (.bl true)) (gc s') := by
  unfold TB
  walk_at "zrun"
  obtain ⟨m, hm, em⟩ : ∃ m : Nat, m < 3 ∧ dv s 3 = (m : Int) := dvn (n := 3) (by decide)
  rw [draw_r (by decide)]
  walk_at "zrun"
  rw [em]
  generalize dn s 3 = s1
  rw [if_pos (by omega), Int.toNat_natCast]
  walk_at "zrun"
  obtain ⟨bh, s2, e1, e2⟩ := behind_ex s1 m (.v (.str (nmS k))) (.v (.int ((k : Int) + 1))) (.v (.int (fm k : Nat))) (.v (.lst (os.map .int))) .no .no .no .no .no
  rw [List.length_range, if_pos (by omega), e1]
  walk_at "zrun"
  obtain ⟨x, y, z, w, e⟩ := choices_go hk bh (by omega) (.o 1 (gc s2)) (.v (.lst (os.map .int))) .no os .no .no .no .no h
  rw [e]
  walk_at "zrun"
  exact ⟨s2, rfl⟩
theorem tb_r (s : GS) {k : Nat} (hk : k < 27) : ∃ s' : GS, F_law_there_and_back (gc s) [.str (nmS k), .int ((k : Int) + 1), .int (fm k : Nat)] = .ok (.v (.bl true)) (gc s') := by
  unfold F_law_there_and_back
  rw [tb_cut]
  walk_at "zrun"
  rcases fm_cases k with e | e | e
  · simp only [e]
    walk_at "zrun"
    have q := TB_r s hk [0] (fun o _ => .inl e)
    rw [e] at q
    exact q
  · simp only [e]
    walk_at "zrun"
    obtain ⟨m, hm, em⟩ : ∃ m : Nat, m < 256 ∧ dv s 256 = (m : Int) := dvn (n := 256) (by decide)
    rw [draw_r (by decide)]
    walk_at "zrun"
    rw [em]
    have q := TB_r (dn s 256) hk [-128, -1, 0, 127, (m : Int) - 128] (fun o ho => .inr (.inl ⟨e, by
      simp only [List.mem_cons, List.not_mem_nil, or_false] at ho
      omega⟩))
    rw [e] at q
    exact q
  · simp only [e]
    walk_at "zrun"
    obtain ⟨w, s', ew, h0, h1⟩ := word_ex s
    rw [ew]
    walk_at "zrun"
    have q := TB_r s' hk [0, 65535, w] (fun o ho => .inr (.inr ⟨e, by
      simp only [List.mem_cons, List.not_mem_nil, or_false] at ho
      omega⟩))
    rw [e] at q
    exact q

end

section
variable [CA]
/-! ### first words -/
theorem nm_ne {k : Nat} (h : k < 27) : decide (nmS k = ("" : Str)) = false := by
  have : ∀ k, k < 27 → decide (nmS k = ("" : Str)) = false := by decide +kernel
  exact this k h
def fdue (k : Nat) (p w : Int) : D := if fm k = 1 then .tup [.str (nmS k), .tup [.int (p - 256 * (if 127 < p then 1 else 0))]] else if fm k = 2 then .tup [.str (nmS k), .tup [.int w]] else .tup [.str (nmS k), .tup []]
theorem fdue_ok {k : Nat} (hk : k < 27) (p w : Int) : okL 11 (fdue k p w) = true := by
  unfold fdue
  split
  · refine okL_tup (n := 10) (by simp) ?_
    simp only [List.all_cons, List.all_nil, okL_str (nm_ok k hk), Bool.and_true, Bool.true_and]; rfl
  · split
    · refine okL_tup (n := 10) (by simp) ?_
      simp only [List.all_cons, List.all_nil, okL_str (nm_ok k hk), Bool.and_true, Bool.true_and]; rfl
    · refine okL_tup (n := 10) (by simp) ?_
      simp only [List.all_cons, List.all_nil, okL_str (nm_ok k hk), Bool.and_true, Bool.true_and]; rfl
theorem dec_fw (k : Nat) (p w : Int) : dec1 k p [.int w] = if fm k ≠ 1 ∧ p ≠ 0 then .non else fdue k p w := by
  unfold dec1 fdue
  rcases fm_cases k with e | e | e
  · by_cases hp : p = 0 <;> simp [e, hp]
  · by_cases hp : p > 127
    · simp [e, hp]
    · simp [e, hp]
  · by_cases hp : p = 0 <;> simp [e, hp]
theorem fw_in {k : Nat} (hk : k < 27) {p w : Int} (h0 : 0 ≤ p) (h1 : p ≤ 255) (c0 c1 c2 x y : Sl) : ∃ x' y',
    b_law_first_words_0 [c0, c1, c2, .v (.int w), .v (.int ((k : Int) + 1)), .v (.str (nmS k)), .v (.int (fm k : Nat)), .v (.int p), x, y] =
      .nx [c0, c1, c2, .v (.int w), .v (.int ((k : Int) + 1)), .v (.str (nmS k)), .v (.int (fm k : Nat)), .v (.int p), x', y'] := by
  have a1 : (256 * ((k : Int) + 1) + p) / 256 = (k : Int) + 1 ∧ (256 * ((k : Int) + 1) + p) % 256 = p := by omega
  have d := dec_r hk a1.1 [.int w]
  rw [a1.2, dec_fw] at d
  have q1 : F_law_plain 12 [fdue k p w] = .ok (.v (plainD (fdue k p w))) := plain_r (n := 11) (fdue_ok hk p w)
  have n1 : pNe [plainD (fdue k p w), plainD (fdue k p w)] = some (.v (.bl false)) := pNe_self (okB_plain64 (fdue_ok hk p w) (by decide))
  have ne := of_decide_eq_false (nm_ne hk)
  unfold b_law_first_words_0
  walk_at "zrun"
  rw [d]
  walk_at "zrun"
  by_cases hh : fm k ≠ 1 ∧ p ≠ 0
  · rw [if_pos hh]
    walk_at "zrun"
    have e1 : ¬ ((fm k : Nat) : Int) = 1 := by omega
    rw [if_neg e1]
    walk_at "zrun"
    by_cases e2 : ((fm k : Nat) : Int) = 2
    · rw [if_pos e2]
      walk_at "zrun"
      rw [if_pos (.inr ⟨e1, hh.2⟩)]
      exact ⟨_, _, rfl⟩
    · rw [if_neg e2]
      walk_at "zrun"
      rw [if_pos (.inr ⟨e1, hh.2⟩)]
      exact ⟨_, _, rfl⟩
  · rw [if_neg hh]
    by_cases e1 : ((fm k : Nat) : Int) = 1
    · have e1' : fm k = 1 := by omega
      have ef : fdue k p w = D.tup [.str (nmS k), .tup [.int (p - 256 * (if 127 < p then 1 else 0))]] := by unfold fdue; rw [if_pos e1']
      rw [ef] at q1 n1 ⊢
      have e2 : ¬ ((fm k : Nat) : Int) = 2 := by omega
      have cn : ¬ (nmS k = ("" : Str) ∨ ¬ ((fm k : Nat) : Int) = 1 ∧ ¬ p = 0) := fun h => h.elim ne fun h => h.1 e1
      walk_at "zrun"
      rw [if_pos e1]
      walk_at "zrun"
      rw [if_neg e2]
      walk_at "zrun"
      rw [if_neg cn]
      walk_at "zrun"
      rw [q1]
      walk_at "zrun"
      rw [q1]
      walk_at "zrun"
      rw [n1]
      walk_at "zrun"
      exact ⟨_, _, rfl⟩
    · have hp : p = 0 := Classical.byContradiction fun h => hh ⟨by omega, h⟩
      have cn : ¬ (nmS k = ("" : Str) ∨ ¬ ((fm k : Nat) : Int) = 1 ∧ ¬ p = 0) := fun h => h.elim ne fun h => h.2 hp
      by_cases e2 : ((fm k : Nat) : Int) = 2
      · have ef : fdue k p w = D.tup [.str (nmS k), .tup [.int w]] := by unfold fdue; rw [if_neg (by omega), if_pos (by omega)]
        rw [ef] at q1 n1 ⊢
        walk_at "zrun"
        rw [if_neg e1]
        walk_at "zrun"
        rw [if_pos e2]
        walk_at "zrun"
        rw [if_neg cn]
        walk_at "zrun"
        rw [q1]
        walk_at "zrun"
        rw [q1]
        walk_at "zrun"
        rw [n1]
        walk_at "zrun"
        exact ⟨_, _, rfl⟩
      · have ef : fdue k p w = D.tup [.str (nmS k), .tup []] := by unfold fdue; rw [if_neg (by omega), if_neg (by omega)]
        rw [ef] at q1 n1 ⊢
        walk_at "zrun"
        rw [if_neg e1]
        walk_at "zrun"
        rw [if_neg e2]
        walk_at "zrun"
        rw [if_neg cn]
        walk_at "zrun"
        rw [q1]
        walk_at "zrun"
        rw [q1]
        walk_at "zrun"
        rw [n1]
        walk_at "zrun"
        exact ⟨_, _, rfl⟩
theorem fw_out {n : Int} (hn : n < 1 ∨ 27 < n) {p w : Int} (h0 : 0 ≤ p) (h1 : p ≤ 255) (c0 c1 c2 x y : Sl) : ∃ x' y',
    b_law_first_words_0 [c0, c1, c2, .v (.int w), .v (.int n), .v (.str ""), .v (.int 0), .v (.int p), x, y] =
      .nx [c0, c1, c2, .v (.int w), .v (.int n), .v (.str ""), .v (.int 0), .v (.int p), x', y'] := by
  have d := dec_no (w0 := 256 * n + p) (by omega) [.int w]
  unfold b_law_first_words_0
  walk_at "zrun"
  rw [d]
  walk_at "zrun"
  exact ⟨_, _, rfl⟩
theorem ROWS_get {k : Nat} (h : k < 27) : ROWS[k]? = some (rowD k) := by
  unfold ROWS
  rw [List.getElem?_map, List.getElem?_range h]
  rfl
theorem fw_step {n : Nat} (hn : n < 256) {low w : Int} (h0 : 0 ≤ low) (h1 : low ≤ 255) (c0 x y z u v : Sl) : ∃ x' y' z' u' v',
    b_law_first_words_1 [c0, .v (.lst ROWS), .v (.int low), .v (.int w), .v (.int (n : Int)), x, y, z, u, v] =
      .nx [c0, .v (.lst ROWS), .v (.int low), .v (.int w), .v (.int (n : Int)), x', y', z', u', v'] := by
  unfold b_law_first_words_1
  walk_at "zrun"
  by_cases h : 0 < (n : Int) ∧ (n : Int) < 28
  · obtain ⟨k, rfl⟩ : ∃ k, n = k + 1 := ⟨n - 1, by omega⟩
    have hk : k < 27 := by omega
    have e : (((k + 1 : Nat) : Int)) = (k : Int) + 1 := by omega
    rw [if_pos h]
    walk_at "zrun"
    rw [e, show (k : Int) + 1 - 1 = (k : Int) by omega]
    rw [at_nat (ROWS_get hk)]
    walk_at "zrun"
    unfold rowD
    walk_at "zrun"
    rw [show (k : Int) + 1 - 1 = (k : Int) by omega]
    rw [at_nat (ROWS_get hk)]
    walk_at "zrun"
    unfold rowD
    walk_at "zrun"
    obtain ⟨a, b, g1⟩ := fw_in hk (p := 0) (w := w) (by decide) (by decide) c0 (.v (.lst ROWS)) (.v (.int low)) u v
    obtain ⟨a2, b2, g2⟩ := fw_in hk (p := low) (w := w) h0 h1 c0 (.v (.lst ROWS)) (.v (.int low)) a b
    rw [forGo_turn (.nx rfl g1), forGo_turn (.nx rfl g2), forGo_nil]
    exact ⟨_, _, _, _, _, rfl⟩
  · rw [if_neg h]
    walk_at "zrun"
    obtain ⟨a, b, g1⟩ := fw_out (n := (n : Int)) (by omega) (p := 0) (w := w) (by decide) (by decide) c0 (.v (.lst ROWS)) (.v (.int low)) u v
    obtain ⟨a2, b2, g2⟩ := fw_out (n := (n : Int)) (by omega) (p := low) (w := w) h0 h1 c0 (.v (.lst ROWS)) (.v (.int low)) a b
    rw [forGo_turn (.nx rfl g1), forGo_turn (.nx rfl g2), forGo_nil]
    exact ⟨_, _, _, _, _, rfl⟩
theorem fw_r (s : GS) : ∃ s' : GS, F_law_first_words (gc s) [.lst ROWS] = .ok (.v (.bl true)) (gc s') := by
  unfold F_law_first_words f_law_first_words
  walk_at "zrun"
  rw [dec_0]
  walk_at "zrun"
  obtain ⟨m, hm, em⟩ : ∃ m : Nat, m < 255 ∧ dv s 255 = (m : Int) := dvn (n := 255) (by decide)
  rw [draw_r (by decide)]
  walk_at "zrun"
  rw [em]
  generalize dn s 255 = s1
  obtain ⟨w, s2, ew, _, _⟩ := word_ex s1
  rw [ew]
  walk_at "zrun"
  obtain ⟨S, e1, x, y, z, u, v, v2, hS⟩ := forGo_invA (g := tgN 4) (b := b_law_first_words_1) (fun k : Nat => D.int (k : Int)) (fun _ S => ∃ x y z u v v2, S = [.o 1 (gc s2), .v (.lst ROWS), .v (.int (1 + (m : Int))), .v (.int w), x, y, z, u, v, v2]) (as := List.range 256) (fun pre k post e S ⟨x, y, z, u, v, v2, hS⟩ => by
    obtain ⟨hp, hk⟩ := range_at e
    subst hS
    obtain ⟨a1, a2, a3, a4, a5, g⟩ := fw_step (n := k) hk (low := 1 + (m : Int)) (w := w) (by omega) (by omega) (.o 1 (gc s2)) y z u v v2
    exact ⟨_, .nx rfl g, _, _, _, _, _, _, rfl⟩) ⟨_, _, _, _, _, _, rfl⟩ (s := [.o 1 (gc s2), .v (.lst ROWS), .v (.int (1 + (m : Int))), .v (.int w), .no, .no, .no, .no, .no, .no])
  subst hS
  rw [e1]
  walk_at "zrun"
  exact ⟨s2, rfl⟩

end

section
variable [CA]
/-! ### refusals -/
theorem refused_r {d : D} {ops : List D} {p : Int} (hl : ops.length ≤ 2) (h : F_code_words [d, .tup ops] = bad p) : F_law_refused [d, .lst ops, .int p] = .ok (.v (.bl true)) := by
  have q1 : F_law_plain 12 [.int p] = .ok (.v (plainD (.int p))) := plain_r (n := 11) okL_int
  have q2 : pEq [plainD (.int p), plainD (.int p)] = some (.v (.bl true)) := pEq_self (okB_plain64 (n := 11) okL_int (by decide))
  unfold F_law_refused f_law_refused
  match ops, hl with
  | [], _ =>
    walk_at "zrun"
    rw [h]
    walk_at "zrun"
    unfold bad
    walk_at "zrun"
    repeat ((first | rw [q1] | rw [q2] | simp only [sub_] | simp only [fo_] | simp only [List.zip_cons_cons, List.zip_nil_left, List.lookup_cons, beq_self_eq_true]); walk_at "zrun")
  | [a], _ =>
    walk_at "zrun"
    rw [h]
    walk_at "zrun"
    unfold bad
    walk_at "zrun"
    repeat ((first | rw [q1] | rw [q2] | simp only [sub_] | simp only [fo_] | simp only [List.zip_cons_cons, List.zip_nil_left, List.lookup_cons, beq_self_eq_true]); walk_at "zrun")
  | [a, b], _ =>
    walk_at "zrun"
    rw [h]
    walk_at "zrun"
    unfold bad
    walk_at "zrun"
    repeat ((first | rw [q1] | rw [q2] | simp only [sub_] | simp only [fo_] | simp only [List.zip_cons_cons, List.zip_nil_left, List.lookup_cons, beq_self_eq_true]); walk_at "zrun")
theorem odd_ref {d : D} (h : Odd d) {ops : List D} (hl : ops.length ≤ 2) : F_law_refused [d, .lst ops, .int 0] = .ok (.v (.bl true)) := refused_r hl (cw_odd h ops)
/-- the first loop -/
theorem lp0 (ns : List D) (s : GS) {k : Nat} (hk : k < 27) (x y z c6 c7 c8 c9 c10 : Sl) : ∃ s' : GS, Turn (tgT (tgsC (tgN 3) (tgsC (tgN 4) (tgsC (tgN 5) tgsN)))) b_law_0 (rowD k) [.v (.klst ns), .o 0 (gc s), .v (.lst ROWS), x, y, z, c6, c7, c8, c9, c10]
    [.v (.klst ns), .o 0 (gc s'), .v (.lst ROWS), .v (.str (nmS k)), .v (.int ((k : Int) + 1)), .v (.int (fm k : Nat)), c6, c7, c8, c9, c10] := by
  obtain ⟨s', e⟩ := tb_r s hk
  refine ⟨s', .nx (s1 := [.v (.klst ns), .o 0 (gc s), .v (.lst ROWS), .v (.str (nmS k)), .v (.int ((k : Int) + 1)), .v (.int (fm k : Nat)), c6, c7, c8, c9, c10]) rfl ?_⟩
  unfold b_law_0
  walk_at "zrun"
  rw [e]
  walk_at "zrun"
theorem lp2 {d : D} (h : Odd d) (c0 c1 c2 c4 c5 c6 c7 c8 c9 c10 : Sl) : ∃ x, b_law_2 [c0, c1, c2, .v d, c4, c5, c6, c7, c8, c9, c10] = .nx [c0, c1, c2, .v d, c4, c5, c6, c7, x, c9, c10] := by
  have step : ∀ (ops : List D) (x : Sl), ops.length ≤ 2 → Turn (tgN 8) b_law_1 (.lst ops) [c0, c1, c2, .v d, c4, c5, c6, c7, x, c9, c10] [c0, c1, c2, .v d, c4, c5, c6, c7, .v (.lst ops), c9, c10] := fun ops x hl => by
    refine .nx rfl ?_
    unfold b_law_1
    walk_at "zrun"
    rw [odd_ref h hl]
    walk_at "zrun"
  unfold b_law_2
  walk_at "zrun"
  rw [forGo_turn (step _ _ (by simp)), forGo_turn (step _ _ (by simp)), forGo_turn (step _ _ (by simp)), forGo_turn (step _ _ (by simp)), forGo_nil]
  exact ⟨_, rfl⟩
theorem odd_list (j : Nat) (hj : j < 27) : ∀ d ∈ [D.str "name", .str "go", .str "unless", .str "call", .str "", .str "nop", .str "PUSH", .str "go  wide", .str "short go", .str "hop short", .int 5, .non, .str (nmS j ++ "x")], Odd d := by
  intro d hd
  have h1 : ∀ z ∈ [("name" : Str), "go", "unless", "call", "", "nop", "PUSH", "go  wide", "short go", "hop short"], (dgS ks_NUMBERS ds_NUMBERS z).isNone = true := by decide +kernel
  have h2 : ∀ j, j < 27 → (dgS ks_NUMBERS ds_NUMBERS (nmS j ++ "x")).isNone = true := by decide +kernel
  simp only [List.mem_cons, List.not_mem_nil, or_false] at hd
  rcases hd with rfl | rfl | rfl | rfl | rfl | rfl | rfl | rfl | rfl | rfl | rfl | rfl | rfl
  all_goals first | exact .int _ | exact .non | exact .str (Option.isNone_iff_eq_none.mp (h2 j hj)) | exact .str (Option.isNone_iff_eq_none.mp (h1 _ (by simp)))
theorem bad0 {k : Nat} {ops : List D} (h : (fm k = 0 ∧ ops.length ≠ 0) ∨ (fm k ≠ 0 ∧ ops.length ≠ 1)) : cw k ops = bad 0 := by
  unfold cw
  rcases h with ⟨e, h⟩ | ⟨e, h⟩
  · rw [if_pos e, if_neg h]
  · rw [if_neg e]
    match ops, h with
    | [], _ => rfl
    | _ :: _ :: _, _ => rfl
/-- operands that do not fit -/
theorem misfit {k : Nat} (e : fm k ≠ 0) {f : Int} (h0 : 0 ≤ f) : ∀ d ∈ (if fm k = 1 then [D.int (-129), .int 128, .int (-129 - f), .int (128 + f), .bl true, .bl false, .str "0", .non] else [D.int (-1), .int 65536, .int (-1 - f), .int (65536 + f), .bl true, .bl false, .str "5", .non]), Opd d ∧ cw k [d] = bad 1 := by
  intro d hd
  by_cases e1 : fm k = 1
  · rw [if_pos e1] at hd
    simp only [List.mem_cons, List.not_mem_nil, or_false] at hd
    have I : ∀ i : Int, ¬ (-128 ≤ i ∧ i ≤ 127) → cw k [.int i] = bad 1 := fun i h => by
      unfold cw
      rw [if_neg e]
      dsimp only
      rw [if_pos e1, if_neg (by simp only [isS, Bool.and_eq_true, decide_eq_true_eq]; exact h)]
    rcases hd with rfl | rfl | rfl | rfl | rfl | rfl | rfl | rfl
    · exact ⟨.int _, I _ (by omega)⟩
    · exact ⟨.int _, I _ (by omega)⟩
    · exact ⟨.int _, I _ (by omega)⟩
    · exact ⟨.int _, I _ (by omega)⟩
    · exact ⟨.bl _, by unfold cw; rw [if_neg e]; dsimp only; rw [if_pos e1]⟩
    · exact ⟨.bl _, by unfold cw; rw [if_neg e]; dsimp only; rw [if_pos e1]⟩
    · exact ⟨.str _, by unfold cw; rw [if_neg e]; dsimp only; rw [if_pos e1]⟩
    · exact ⟨.non, by unfold cw; rw [if_neg e]; dsimp only; rw [if_pos e1]⟩
  · rw [if_neg e1] at hd
    simp only [List.mem_cons, List.not_mem_nil, or_false] at hd
    have I : ∀ d, isW d = false → cw k [d] = bad 1 := fun d h => by
      unfold cw
      rw [if_neg e]
      dsimp only
      rw [if_neg e1, h]
      rfl
    have J : ∀ i : Int, ¬ (0 ≤ i ∧ i ≤ 65535) → isW (.int i) = false := fun i h => by
      rw [Bool.eq_false_iff]
      simp only [isW, ne_eq, Bool.and_eq_true, decide_eq_true_eq]
      exact h
    rcases hd with rfl | rfl | rfl | rfl | rfl | rfl | rfl | rfl
    · exact ⟨.int _, I _ (J _ (by omega))⟩
    · exact ⟨.int _, I _ (J _ (by omega))⟩
    · exact ⟨.int _, I _ (J _ (by omega))⟩
    · exact ⟨.int _, I _ (J _ (by omega))⟩
    · exact ⟨.bl _, I _ rfl⟩
    · exact ⟨.bl _, I _ rfl⟩
    · exact ⟨.str _, I _ rfl⟩
    · exact ⟨.non, I _ rfl⟩
theorem misfits_ex (s : GS) {k : Nat} (e : fm k ≠ 0) : ∃ (f : Int) (s' : GS), 0 ≤ f ∧ F_law_misfits (gc s) [.int (fm k : Nat)] = .ok (.o 0 (.lst (if fm k = 1 then [D.int (-129), .int 128, .int (-129 - f), .int (128 + f), .bl true, .bl false, .str "0", .non] else [D.int (-1), .int 65536, .int (-1 - f), .int (65536 + f), .bl true, .bl false, .str "5", .non]))) (gc s') := by
  unfold F_law_misfits f_law_misfits
  walk_at "zrun"
  obtain ⟨m, hm, em⟩ : ∃ m : Nat, m < 70000 ∧ dv s 70000 = (m : Int) := dvn (n := 70000) (by decide)
  rw [draw_r (by decide)]
  walk_at "zrun"
  rw [em]
  by_cases h : fm k = 1
  · have h' : ((fm k : Nat) : Int) = 1 := by omega
    rw [if_pos h']
    walk_at "zrun"
    exact ⟨m, _, by omega, by rw [if_pos h]⟩
  · have h' : ¬ ((fm k : Nat) : Int) = 1 := by omega
    rw [if_neg h']
    walk_at "zrun"
    exact ⟨m, _, by omega, by rw [if_neg h]⟩

end

section
variable [CA]
theorem nm_ref {k : Nat} (hk : k < 27) {ops : List D} {p : Int} (ho : ∀ d ∈ ops, Opd d) (hl : ops.length ≤ 2) (h : cw k ops = bad p) : F_law_refused [.str (nmS k), .lst ops, .int p] = .ok (.v (.bl true)) := refused_r hl ((cw_r (nm_k k hk) ho).trans h)
theorem mis_go {k : Nat} (hk : k < 27) (c0 c1 c2 c4 c5 c6 c7 c8 c9 : Sl) : ∀ (os : List D) (x : Sl), (∀ d ∈ os, Opd d ∧ cw k [d] = bad 1) → ∃ x', forGo (tgN 10) b_law_3 os [c0, c1, c2, .v (.str (nmS k)), c4, c5, c6, c7, c8, c9, x] = .nx [c0, c1, c2, .v (.str (nmS k)), c4, c5, c6, c7, c8, c9, x']
  | [], x, _ => ⟨x, rfl⟩
  | d :: os, x, h => by
    obtain ⟨x', e⟩ := mis_go hk c0 c1 c2 c4 c5 c6 c7 c8 c9 os (.v d) fun d hd => h d (.tail _ hd)
    refine ⟨x', ?_⟩
    obtain ⟨h1, h2⟩ := h d (.head _)
    have r := nm_ref hk (ops := [d]) (p := 1) (by simpa using h1) (by simp) h2
    rw [forGo_turn (.nx (s2 := [c0, c1, c2, .v (.str (nmS k)), c4, c5, c6, c7, c8, c9, .v d]) rfl ?_), e]
    unfold b_law_3
    walk_at "zrun"
    rw [r]
    walk_at "zrun"
theorem lp4 (ns : List D) (s : GS) {k : Nat} (hk : k < 27) (x y z c6 c7 c8 c9 c10 : Sl) : ∃ (s' : GS) (x9 x10 : Sl), Turn (tgT (tgsC (tgN 3) (tgsC (tgN 4) (tgsC (tgN 5) tgsN)))) b_law_4 (rowD k) [.v (.klst ns), .o 0 (gc s), .v (.lst ROWS), x, y, z, c6, c7, c8, c9, c10]
    [.v (.klst ns), .o 0 (gc s'), .v (.lst ROWS), .v (.str (nmS k)), .v (.int ((k : Int) + 1)), .v (.int (fm k : Nat)), c6, c7, c8, x9, x10] := by
  obtain ⟨w, s1, ew, _, _⟩ := word_ex s
  have r1 := nm_ref hk (ops := [.int w, .int w]) (p := 0) (by intro d hd; simp at hd; subst hd; exact .int _) (by simp) (bad0 (by simp; omega))
  have r2 := nm_ref hk (ops := [.int (-70000), .int w]) (p := 0) (by intro d hd; simp at hd; rcases hd with rfl | rfl <;> exact .int _) (by simp) (bad0 (by simp; omega))
  by_cases e : fm k = 0
  · have e' : ((fm k : Nat) : Int) = 0 := by omega
    have r3 := nm_ref hk (ops := [.int w]) (p := 0) (by intro d hd; simp at hd; subst hd; exact .int _) (by simp) (bad0 (.inl ⟨e, by simp⟩))
    have r4 := nm_ref hk (ops := [.int (-70000)]) (p := 0) (by intro d hd; simp at hd; subst hd; exact .int _) (by simp) (bad0 (.inl ⟨e, by simp⟩))
    refine ⟨s1, _, _, .nx (s1 := [.v (.klst ns), .o 0 (gc s), .v (.lst ROWS), .v (.str (nmS k)), .v (.int ((k : Int) + 1)), .v (.int (fm k : Nat)), c6, c7, c8, c9, c10]) rfl (?_ : b_law_4 _ = .nx [.v (.klst ns), .o 0 (gc s1), .v (.lst ROWS), .v (.str (nmS k)), .v (.int ((k : Int) + 1)), .v (.int (fm k : Nat)), c6, c7, c8, .v (.int w), c10])⟩
    unfold b_law_4
    walk_at "zrun"
    rw [ew]
    walk_at "zrun"
    rw [r1]
    walk_at "zrun"
    rw [r2]
    walk_at "zrun"
    simp only [e]
    walk_at "zrun"
    rw [r3]
    walk_at "zrun"
    rw [r4]
    walk_at "zrun"
  · have e' : ¬ ((fm k : Nat) : Int) = 0 := by omega
    obtain ⟨f, s2, h0, em⟩ := misfits_ex s1 e
    have r3 := nm_ref hk (ops := []) (p := 0) (by simp) (by simp) (bad0 (.inr ⟨e, by simp⟩))
    obtain ⟨x', g⟩ := mis_go hk (.v (.klst ns)) (.o 0 (gc s2)) (.v (.lst ROWS)) (.v (.int ((k : Int) + 1))) (.v (.int (fm k : Nat))) c6 c7 c8 (.v (.int w)) _ c10 (misfit e h0)
    refine ⟨s2, _, _, .nx (s1 := [.v (.klst ns), .o 0 (gc s), .v (.lst ROWS), .v (.str (nmS k)), .v (.int ((k : Int) + 1)), .v (.int (fm k : Nat)), c6, c7, c8, c9, c10]) rfl (?_ : b_law_4 _ = .nx [.v (.klst ns), .o 0 (gc s2), .v (.lst ROWS), .v (.str (nmS k)), .v (.int ((k : Int) + 1)), .v (.int (fm k : Nat)), c6, c7, c8, .v (.int w), x'])⟩
    unfold b_law_4
    walk_at "zrun"
    rw [ew]
    walk_at "zrun"
    rw [r1]
    walk_at "zrun"
    rw [r2]
    walk_at "zrun"
    rw [if_neg e']
    walk_at "zrun"
    rw [if_pos e']
    walk_at "zrun"
    rw [r3]
    walk_at "zrun"
    rw [if_pos e']
    walk_at "zrun"
    rw [em]
    walk_at "zrun"
    rw [g]
    walk_at "zrun"
theorem rows_len : ROWS.length = 27 := by unfold ROWS; rw [List.length_map, List.length_range]
theorem law_true (ns : List Int) (h : ns.length ≤ 63) : F_law [.klst (ns.map .int)] = .ok (.v (.bl true)) := by
  obtain ⟨s, e0⟩ := source_r h
  unfold F_law f_law
  walk_at "zrun"
  rw [e0]
  walk_at "zrun"
  rw [table_r]
  walk_at "zrun"
  obtain ⟨S, e1, s1, x, y, z, hS⟩ := forGo_invA (g := tgT (tgsC (tgN 3) (tgsC (tgN 4) (tgsC (tgN 5) tgsN)))) (b := b_law_0) rowD (fun _ S => ∃ (s : GS) (x y z : Sl), S = [.v (.klst (ns.map .int)), .o 0 (gc s), .v (.lst ROWS), x, y, z, .no, .no, .no, .no, .no]) (as := List.range 27) (fun pre k post e S ⟨s, x, y, z, hS⟩ => by
    obtain ⟨hp, hk⟩ := range_at e
    subst hS
    obtain ⟨s', t⟩ := lp0 (ns.map .int) s hk x y z .no .no .no .no .no
    exact ⟨_, t, s', _, _, _, rfl⟩) ⟨s, _, _, _, rfl⟩ (s := [.v (.klst (ns.map .int)), .o 0 (gc s), .v (.lst ROWS), .no, .no, .no, .no, .no, .no, .no, .no])
  subst hS
  rw [show (List.range 27).map rowD = ROWS from rfl] at e1
  rw [e1]
  walk_at "zrun"
  obtain ⟨s2, e2⟩ := fw_r s1
  rw [e2]
  walk_at "zrun"
  obtain ⟨j, hj, ej⟩ : ∃ m : Nat, m < 27 ∧ dv s2 27 = (m : Int) := dvn (n := 27) (by decide)
  rw [draw_r (by decide)]
  walk_at "zrun"
  rw [ej]
  generalize dn s2 27 = s3
  rw [at_nat (ROWS_get hj)]
  walk_at "zrun"
  unfold rowD
  walk_at "zrun"
  have hx : (nmS j).length + ("x" : Str).length ≤ 16777216 := by
    have : ∀ j, j < 27 → (nmS j).length + ("x" : Str).length ≤ 16777216 := by decide +kernel
    exact this j hj
  rw [if_pos hx]
  walk_at "zrun"
  have step2 := fun {d : D} (hd : Odd d) (c4 c5 x : Sl) => lp2 hd (.v (.klst (ns.map .int))) (.o 0 (gc s3)) (.v (.lst ROWS)) c4 c5 (.v (.str (nmS j))) (.v (.lst [D.str "name", .str "go", .str "unless", .str "call", .str "", .str "nop", .str "PUSH", .str "go  wide", .str "short go", .str "hop short", .int 5, .non])) x .no .no
  obtain ⟨S, e3, a, b, c, d8, hS⟩ := forGo_invA (g := tgN 3) (b := b_law_2) id (fun _ S => ∃ (x y z u : Sl), S = [.v (.klst (ns.map .int)), .o 0 (gc s3), .v (.lst ROWS), x, y, z, .v (.str (nmS j)), .v (.lst [D.str "name", .str "go", .str "unless", .str "call", .str "", .str "nop", .str "PUSH", .str "go  wide", .str "short go", .str "hop short", .int 5, .non]), u, .no, .no])
    (as := [D.str "name", .str "go", .str "unless", .str "call", .str "", .str "nop", .str "PUSH", .str "go  wide", .str "short go", .str "hop short", .int 5, .non, .str (nmS j ++ "x")]) (fun pre d post e S ⟨x, y, z, u, hS⟩ => by
    subst hS
    obtain ⟨x', g⟩ := step2 (odd_list j hj d (by rw [e]; simp)) y z u
    exact ⟨_, .nx rfl g, _, _, _, _, rfl⟩) ⟨_, _, _, _, rfl⟩ (s := [.v (.klst (ns.map .int)), .o 0 (gc s3), .v (.lst ROWS), x, y, z, .v (.str (nmS j)), .v (.lst [D.str "name", .str "go", .str "unless", .str "call", .str "", .str "nop", .str "PUSH", .str "go  wide", .str "short go", .str "hop short", .int 5, .non]), .no, .no, .no])
  subst hS
  rw [List.map_id] at e3
  rw [e3]
  walk_at "zrun"
  obtain ⟨S, e4, s4, x, y, z, x9, x10, hS⟩ := forGo_invA (g := tgT (tgsC (tgN 3) (tgsC (tgN 4) (tgsC (tgN 5) tgsN)))) (b := b_law_4) rowD (fun _ S => ∃ (s : GS) (x y z x9 x10 : Sl), S = [.v (.klst (ns.map .int)), .o 0 (gc s), .v (.lst ROWS), x, y, z, .v (.str (nmS j)), .v (.lst [D.str "name", .str "go", .str "unless", .str "call", .str "", .str "nop", .str "PUSH", .str "go  wide", .str "short go", .str "hop short", .int 5, .non]), d8, x9, x10]) (as := List.range 27) (fun pre k post e S ⟨s, x, y, z, x9, x10, hS⟩ => by
    obtain ⟨hp, hk⟩ := range_at e
    subst hS
    obtain ⟨s', u, v, t⟩ := lp4 (ns.map .int) s hk x y z (.v (.str (nmS j))) (.v (.lst [D.str "name", .str "go", .str "unless", .str "call", .str "", .str "nop", .str "PUSH", .str "go  wide", .str "short go", .str "hop short", .int 5, .non])) d8 x9 x10
    exact ⟨_, t, s', _, _, _, _, _, rfl⟩) ⟨s3, _, _, _, _, _, rfl⟩ (s := [.v (.klst (ns.map .int)), .o 0 (gc s3), .v (.lst ROWS), a, b, c, .v (.str (nmS j)), .v (.lst [D.str "name", .str "go", .str "unless", .str "call", .str "", .str "nop", .str "PUSH", .str "go  wide", .str "short go", .str "hop short", .int 5, .non]), d8, .no, .no])
  subst hS
  rw [show (List.range 27).map rowD = ROWS from rfl] at e4
  rw [e4]
  walk_at "zrun"
  obtain ⟨s5, e5⟩ := tb_r s4 (k := 25) (by decide)
  have e6 : F_law_there_and_back (gc s4) [.str "halt", .int 26, .int 0] = .ok (.v (.bl true)) (gc s5) := e5
  rw [e6]
  walk_at "zrun"

end

end K
namespace K
open PySem L2 Zd Zf
open PyProof.Rows (envOfC)
/-! ### the head -/
def cA (c : Nat) : PySem.W.Frag → Addr := fun K => He.ga K (nm_ c)
def mkCA (K : PySem.W.Frag) : CA := ⟨fun c => He.ga K (nm_ c)⟩
def cW (c : Nat) : PySem.W.Frag → Value := fun K => @cv_ (mkCA K) c
def fal : List Ck := [(fun K => (He.Fa.glo "is_number").ok K),
  (fun K => (He.Fa.glo "instruction_of").ok K),
  (fun K => (He.Fa.glo "_law_source").ok K),
  (fun K => (He.Fa.glo "_law_draw").ok K),
  (fun K => (He.Fa.glo "_law_plain").ok K),
  (fun K => (He.Fa.glo "_law_table").ok K),
  (fun K => (He.Fa.glo "_law_due").ok K),
  (fun K => (He.Fa.glo "is_word").ok K),
  (fun K => (He.Fa.glo "decoded").ok K),
  (fun K => (He.Fa.glo "_law_word").ok K),
  (fun K => (He.Fa.glo "_law_misfits").ok K),
  (fun K => (He.Fa.glo "code_words").ok K),
  (fun K => (He.Fa.glo "_law_first_words").ok K),
  (fun K => (He.Fa.glo "_law_there_and_back").ok K),
  (fun K => (He.Fa.glo "_law_refused").ok K),
  (fun K => (He.Fa.glo "law").ok K),
  (fun K => (He.Fa.glo "RomError").ok K),
  (fun K => (He.Fa.glo "BadItem").ok K),
  (fun K => (He.Fa.free "len").ok K),
  (fun K => (He.Fa.free "range").ok K),
  (fun K => (He.Fa.free "int").ok K),
  (fun K => (He.Fa.free "abs").ok K),
  (fun K => (He.Fa.free "list").ok K),
  (fun K => (He.Fa.free "tuple").ok K),
  (fun K => (He.Fa.free "isinstance").ok K),
  (fun K => (He.Fa.free "str").ok K),
  (fun K => (He.Fa.free "bool").ok K),
  (fun K => (He.Fa.free "ValueError").ok K),
  (fun K => (He.Fa.int "BLANK" 65535).ok K),
  (gcoB "TWO_WORDS" (.tup [(.str "push"), (.str "go wide"), (.str "unless wide"), (.str "call wide"), (.str "far"), (.str "bring"), (.str "hop")])),
  (gcoB "SHORT" (.tup [(.str "go short"), (.str "unless short"), (.str "call short")])),
  (dicB "NUMBERS" ks_NUMBERS ds_NUMBERS),
  (oexB (cA 1)),
  (excB (cA 1)),
  (noB (cA 1) "place"),
  (iniB (cA 1)),
  (exmB (cA 1) (cW 0) true),
  (exmB (cA 1) (cW 1) true),
  (exmB (cA 1) (cW 1000) true)]
def fnl : List He.DefD := [dOf "is_number" none "is_number" "is_number" st_is_number,
  dOf "instruction_of" none "instruction_of" "instruction_of" st_instruction_of,
  dOf "_law_source" none "_law_source" "_law_source" st_law_source,
  dOf "_law_draw" none "_law_draw" "_law_draw" st_law_draw,
  dOf "_law_plain" none "_law_plain" "_law_plain" st_law_plain,
  dOf "_law_table" none "_law_table" "_law_table" st_law_table,
  dOf "_law_due" none "_law_due" "_law_due" st_law_due,
  dOf "is_word" none "is_word" "is_word" st_is_word,
  dOf "decoded" none "decoded" "decoded" st_decoded,
  dOf "_law_word" none "_law_word" "_law_word" st_law_word,
  dOf "_law_misfits" none "_law_misfits" "_law_misfits" st_law_misfits,
  dOf "code_words" none "code_words" "code_words" st_code_words,
  dOf "_law_first_words" none "_law_first_words" "_law_first_words" st_law_first_words,
  dOf "_law_there_and_back" none "_law_there_and_back" "_law_there_and_back" st_law_there_and_back,
  dOf "_law_refused" none "_law_refused" "_law_refused" st_law_refused,
  dOf "law" none "law" "law" st_law,
  dOf "BadItem" (some "__init__") "__init__" "BadItem.__init__" st_BadItem_init]
def tal : List He.Tab := [((fun K => He.ga K "NUMBERS"), ks_NUMBERS)]
abbrev hk : PySem.W.Hook := hookY 6 fal fnl tal
def ob (s : PySem.W.SharedT) : AlY := obsYG 6 fal fnl tal (HandSHeadRun.getT s)
theorem ob_eq (s : PySem.W.SharedT) : ob s = hk.obs s.abs := obsYG_eq (HandSHeadRun.getT_eq s)
def loose0 : List PySem.Str := ["BLANK", "RomError", "BadItem", "is_number", "is_word", "NUMBERS", "TWO_WORDS", "SHORT", "code_words", "instruction_of", "decoded", "_law_source", "_law_draw", "_law_word", "_law_plain", "_law_table", "_law_due", "_law_there_and_back", "_law_first_words", "_law_refused", "_law_misfits"]
abbrev loose : List PySem.Str := loose0
theorem run_f (w : World) : HandSHeadRun.RunEq (PySem.W.OpenLaw.row PySem.Challenge.rw_romwright_k17_code_words_back) (PySem.W.view (PySem.W.OpenLaw.row PySem.Challenge.rw_romwright_k17_code_words_back).prog [24]) hk ob 4000 loose (w.withFollow "special-get-raises" false) := by
  intro os
  kernel_rfl
theorem run_t (w : World) : HandSHeadRun.RunEq (PySem.W.OpenLaw.row PySem.Challenge.rw_romwright_k17_code_words_back) (PySem.W.view (PySem.W.OpenLaw.row PySem.Challenge.rw_romwright_k17_code_words_back).prog [24]) hk ob 4000 loose (w.withFollow "special-get-raises" true) := by
  intro os
  kernel_rfl
theorem run (w : World) : HandSHeadRun.RunEq (PySem.W.OpenLaw.row PySem.Challenge.rw_romwright_k17_code_words_back) (PySem.W.view (PySem.W.OpenLaw.row PySem.Challenge.rw_romwright_k17_code_words_back).prog [24]) hk ob 4000 loose w := PySem.W.byRow2 "special-get-raises" (P := fun w => HandSHeadRun.RunEq (PySem.W.OpenLaw.row PySem.Challenge.rw_romwright_k17_code_words_back) (PySem.W.view (PySem.W.OpenLaw.row PySem.Challenge.rw_romwright_k17_code_words_back).prog [24]) hk ob 4000 loose w) run_f run_t w
theorem facts {l : PySem.W.OpenLaw} {w : World} {mg : Str → Option Value} {fa : Addr} {h : Heap} (Y : hk.says w h) (G : h.Ns mainGlobals mg) (hfa : mg "law" = some (.ref fa)) :
    ∃ (K : PySem.W.Frag) (fd : FuncData) (sp : Sp), K.In h ∧ (∀ (s : Shared) (u : Value), BindsTo s fd ⟨[u], []⟩ [("script", u)]) ∧
        (∀ (H : Hp) (a : Addr) (ns : List Int), ns.length ≤ 63 → Only H → SqL K H a (ns.map V.int) → sp [.ref a] H (fun v _ => v = .bl true) fun _ _ _ => False) ∧
        ∀ base : Heap, K.In base → base.Ns mainGlobals mg → FnOk l.prog w K mg base (L2N.CX l.prog w) 15 fa fd ["script"] sp := by
  obtain ⟨K, KX, cY⟩ := Y
  have c := cY.z
  letI ca : CA := mkCA K
  obtain ⟨fd0, F0⟩ := c.fun_ 0 (st := st_is_number) rfl
  have b0 := F0.binds (ps := ["thing"]) fun _ _ _ _ _ _ us hl => match us, hl with | [_], _ => rfl
  have g0 := He.glo_ok KX G (x := "is_number") (c.fact 0 rfl)
  obtain ⟨fd1, F1⟩ := c.fun_ 1 (st := st_instruction_of) rfl
  have b1 := F1.binds (ps := ["number"]) fun _ _ _ _ _ _ us hl => match us, hl with | [_], _ => rfl
  have g1 := He.glo_ok KX G (x := "instruction_of") (c.fact 1 rfl)
  obtain ⟨fd2, F2⟩ := c.fun_ 2 (st := st_law_source) rfl
  have b2 := F2.binds (ps := ["script"]) fun _ _ _ _ _ _ us hl => match us, hl with | [_], _ => rfl
  have g2 := He.glo_ok KX G (x := "_law_source") (c.fact 2 rfl)
  obtain ⟨fd3, F3⟩ := c.fun_ 3 (st := st_law_draw) rfl
  have b3 := F3.binds (ps := ["source", "below"]) fun _ _ _ _ _ _ us hl => match us, hl with | [_, _], _ => rfl
  have g3 := He.glo_ok KX G (x := "_law_draw") (c.fact 3 rfl)
  obtain ⟨fd4, F4⟩ := c.fun_ 4 (st := st_law_plain) rfl
  have b4 := F4.binds (ps := ["thing"]) fun _ _ _ _ _ _ us hl => match us, hl with | [_], _ => rfl
  have g4 := He.glo_ok KX G (x := "_law_plain") (c.fact 4 rfl)
  obtain ⟨fd5, F5⟩ := c.fun_ 5 (st := st_law_table) rfl
  have b5 := F5.binds (ps := []) fun _ _ _ _ _ _ us hl => match us, hl with | [], _ => rfl
  have g5 := He.glo_ok KX G (x := "_law_table") (c.fact 5 rfl)
  obtain ⟨fd6, F6⟩ := c.fun_ 6 (st := st_law_due) rfl
  have b6 := F6.binds (ps := ["number", "form", "operand"]) fun _ _ _ _ _ _ us hl => match us, hl with | [_, _, _], _ => rfl
  have g6 := He.glo_ok KX G (x := "_law_due") (c.fact 6 rfl)
  obtain ⟨fd7, F7⟩ := c.fun_ 7 (st := st_is_word) rfl
  have b7 := F7.binds (ps := ["thing"]) fun _ _ _ _ _ _ us hl => match us, hl with | [_], _ => rfl
  have g7 := He.glo_ok KX G (x := "is_word") (c.fact 7 rfl)
  obtain ⟨fd8, F8⟩ := c.fun_ 8 (st := st_decoded) rfl
  have b8 := F8.binds (ps := ["words"]) fun _ _ _ _ _ _ us hl => match us, hl with | [_], _ => rfl
  have g8 := He.glo_ok KX G (x := "decoded") (c.fact 8 rfl)
  obtain ⟨fd9, F9⟩ := c.fun_ 9 (st := st_law_word) rfl
  have b9 := F9.binds (ps := ["source"]) fun _ _ _ _ _ _ us hl => match us, hl with | [_], _ => rfl
  have g9 := He.glo_ok KX G (x := "_law_word") (c.fact 9 rfl)
  obtain ⟨fd10, F10⟩ := c.fun_ 10 (st := st_law_misfits) rfl
  have b10 := F10.binds (ps := ["source", "form"]) fun _ _ _ _ _ _ us hl => match us, hl with | [_, _], _ => rfl
  have g10 := He.glo_ok KX G (x := "_law_misfits") (c.fact 10 rfl)
  obtain ⟨fd11, F11⟩ := c.fun_ 11 (st := st_code_words) rfl
  have g11 := He.glo_ok KX G (x := "code_words") (c.fact 11 rfl)
  obtain ⟨fd12, F12⟩ := c.fun_ 12 (st := st_law_first_words) rfl
  have b12 := F12.binds (ps := ["source", "rows"]) fun _ _ _ _ _ _ us hl => match us, hl with | [_, _], _ => rfl
  have g12 := He.glo_ok KX G (x := "_law_first_words") (c.fact 12 rfl)
  obtain ⟨fd13, F13⟩ := c.fun_ 13 (st := st_law_there_and_back) rfl
  have b13 := F13.binds (ps := ["source", "name", "number", "form"]) fun _ _ _ _ _ _ us hl => match us, hl with | [_, _, _, _], _ => rfl
  have g13 := He.glo_ok KX G (x := "_law_there_and_back") (c.fact 13 rfl)
  obtain ⟨fd14, F14⟩ := c.fun_ 14 (st := st_law_refused) rfl
  have b14 := F14.binds (ps := ["name", "operands", "place"]) fun _ _ _ _ _ _ us hl => match us, hl with | [_, _, _], _ => rfl
  have g14 := He.glo_ok KX G (x := "_law_refused") (c.fact 14 rfl)
  obtain ⟨fd15, F15⟩ := c.fun_ 15 (st := st_law) rfl
  have b15 := F15.binds (ps := ["script"]) fun _ _ _ _ _ _ us hl => match us, hl with | [_], _ => rfl
  have g15 := He.glo_ok KX G (x := "law") (c.fact 15 rfl)
  obtain ⟨fd16, F16⟩ := c.fun_ 16 (st := st_BadItem_init) rfl
  have b16 := F16.binds (ps := ["self", "place"]) fun _ _ _ _ _ _ us hl => match us, hl with | [_, _], _ => rfl
  have e := hfa.symm.trans g15
  cases e
  have T : Txt K mg := ⟨He.free_ok KX G (c.fact 18 rfl), He.free_ok KX G (c.fact 19 rfl), He.free_ok KX G (c.fact 20 rfl), He.free_ok KX G (c.fact 21 rfl), He.free_ok KX G (c.fact 22 rfl), He.free_ok KX G (c.fact 23 rfl), He.free_ok KX G (c.fact 24 rfl), He.free_ok KX G (c.fact 25 rfl), He.free_ok KX G (c.fact 26 rfl), He.free_ok KX G (c.fact 27 rfl), He.int_ok KX G (c.fact 28 rfl), gcoB_ok KX G (c.fact 29 rfl), gcoB_ok KX G (c.fact 30 rfl)⟩
  refine ⟨K, fd15, spP K 1 (specP F_law), KX, fun s u => ?_, fun H a ns hl _ hS => law_ask (n := 63) (fun ns h => law_true ns h) hl hS, fun base hb hn => ?_⟩
  · obtain ⟨oc, od, kV, doc, pm, an, cdv, ct, osl, rfl, lk, hcd⟩ := F15.ex
    exact .of_eq rfl
  have XX : XS l.prog w K mg base 2 nm_ cv_ sub_ fo_ := by
    refine ⟨fun x hx => ?_, fun x f h => ?_, fun x x' b h => ?_⟩
    · match x, hx with
      | 0, _ => exact He.glo_ok KX G (c.fact 16 rfl)
      | 1, _ => exact He.glo_ok KX G (c.fact 17 rfl)
    · unfold fo_ at h
      split at h
      · cases h
        have hO := oexB_ok (C := cA 1) (K := K) (c.fact 32 rfl)
        have hI := iniB_ok (C := cA 1) (K := K) (c.fact 35 rfl)
        have hN := noB_ok (C := cA 1) (K := K) (c.fact 34 rfl)
        exact ⟨⟨hO, He.glo_ok KX G (c.fact 17 rfl), ⟨_, fd16, "self", "place", hI.1, hI.2, fn_init F16 sc_BadItem_init rfl hO hN (.inl rfl) (.inl rfl), b16⟩⟩, (excB_ok (C := cA 1) (c.fact 33 rfl)).2, hN⟩
      · cases h
    · unfold sub_ at h
      split at h
      · cases h
        have hE := exmB_ok (C := cA 1) (c := cW 0) (b := true) (K := K) (c.fact 36 rfl)
        exact ⟨(excB_ok (C := cA 1) (c.fact 33 rfl)).1, hE.1, hE.2⟩
      · cases h
        have hE := exmB_ok (C := cA 1) (c := cW 1) (b := true) (K := K) (c.fact 37 rfl)
        exact ⟨(excB_ok (C := cA 1) (c.fact 33 rfl)).1, hE.1, hE.2⟩
      · cases h
        have hE := exmB_ok (C := cA 1) (c := cW 1000) (b := true) (K := K) (c.fact 38 rfl)
        exact ⟨(excB_ok (C := cA 1) (c.fact 33 rfl)).1, hE.1, hE.2⟩
      · cases h
  have DX : DXs w K mg := ⟨dicB_ok KX G rfl (cY.tab 0 rfl) (c.fact 31 rfl)⟩
  have C_is_number : CalP l.prog w K mg base 1 "is_number" 1 (specP F_is_number) := ⟨⟨_, fd0, _, ok_is_number F0 T, rfl, g0, F0.kp, b0⟩⟩
  have C_instruction_of : CalP l.prog w K mg base 1 "instruction_of" 1 (specP F_instruction_of) := ⟨⟨_, fd1, _, ok_instruction_of F1 T DX, rfl, g1, F1.kp, b1⟩⟩
  have C_law_source : CalP l.prog w K mg base 1 "_law_source" 1 (specP F_law_source) := ⟨⟨_, fd2, _, ok_law_source F2 T, rfl, g2, F2.kp, b2⟩⟩
  have C_law_draw : CalM l.prog w K mg base 1 "_law_draw" 2 (specM F_law_draw) := ⟨⟨_, fd3, _, ok_law_draw F3 T, rfl, g3, F3.kp, b3⟩⟩
  have C_law_plain : CalP l.prog w K mg base 13 "_law_plain" 1 (specP (F_law_plain 12)) := ⟨⟨_, fd4, _, ok_law_plain F4 T g4 F4.kp b4 12, rfl, g4, F4.kp, b4⟩⟩
  have CH_law_plain : CalH l.prog w K mg base 13 "_law_plain" 1 (specP (F_law_plain 12)) := ⟨⟨_, fd4, _, okh_law_plain F4 T g4 F4.kp b4 12, rfl, g4, F4.kp, b4⟩⟩
  have C_law_table : CalP l.prog w K mg base 1 "_law_table" 0 (specP F_law_table) := ⟨⟨_, fd5, _, ok_law_table F5 T, rfl, g5, F5.kp, b5⟩⟩
  have C_law_due : CalP l.prog w K mg base 1 "_law_due" 3 (specP F_law_due) := ⟨⟨_, fd6, _, ok_law_due F6 T, rfl, g6, F6.kp, b6⟩⟩
  have C_is_word : CalP l.prog w K mg base 2 "is_word" 1 (specP F_is_word) := ⟨⟨_, fd7, _, ok_is_word F7 T C_is_number, rfl, g7, F7.kp, b7⟩⟩
  have C_decoded : CalP l.prog w K mg base 2 "decoded" 1 (specP F_decoded) := ⟨⟨_, fd8, _, ok_decoded F8 T C_instruction_of, rfl, g8, F8.kp, b8⟩⟩
  have C_law_word : CalM l.prog w K mg base 2 "_law_word" 1 (specM F_law_word) := ⟨⟨_, fd9, _, ok_law_word F9 T C_law_draw, rfl, g9, F9.kp, b9⟩⟩
  have C_law_misfits : CalM l.prog w K mg base 2 "_law_misfits" 2 (specM F_law_misfits) := ⟨⟨_, fd10, _, ok_law_misfits F10 T C_law_draw, rfl, g10, F10.kp, b10⟩⟩
  have C_code_words : CalV l.prog w K mg base 3 "code_words" (starS 1 (specP F_code_words)) := ⟨⟨_, ok_code_words F11 T XX DX C_is_number C_is_word, g11, F11.kp⟩⟩
  have C_law_first_words : CalM l.prog w K mg base 14 "_law_first_words" 2 (specM F_law_first_words) := ⟨⟨_, fd12, _, ok_law_first_words F12 T C_decoded C_law_draw C_law_word C_law_plain, rfl, g12, F12.kp, b12⟩⟩
  have C_law_there_and_back : CalM l.prog w K mg base 14 "_law_there_and_back" 4 (specM F_law_there_and_back) := ⟨⟨_, fd13, _, ok_law_there_and_back F13 T C_law_draw C_law_word C_law_due C_code_words C_law_plain C_decoded, rfl, g13, F13.kp, b13⟩⟩
  have C_law_refused : CalP l.prog w K mg base 14 "_law_refused" 3 (specP F_law_refused) := ⟨⟨_, fd14, _, ok_law_refused F14 T XX C_code_words CH_law_plain, rfl, g14, F14.kp, b14⟩⟩
  exact ok_law F15 T C_law_source C_law_table C_law_there_and_back C_law_first_words C_law_draw C_law_refused C_law_word C_law_misfits
end K
open PySem PySem.W PySem.Calls PyProof.Rows in
set_option maxRecDepth 100000 in
set_option maxHeartbeats 0 in
theorem PySem.Challenge.cw_romwright_k17_code_words_back_holds : PySem.Challenge.rw_romwright_k17_code_words_back.Holds := by
  w_on; o_law
  refine HandSHeadRun.head_any (r := OpenLaw.row PySem.Challenge.rw_romwright_k17_code_words_back) (q := view (OpenLaw.row PySem.Challenge.rw_romwright_k17_code_words_back).prog [24]) (H := K.hk) (ob := K.ob) (M := 4000) (loose := K.loose) (d := HandSHeadRun.topDef (OpenLaw.row PySem.Challenge.rw_romwright_k17_code_words_back).prog 24) (kwd := []) K.ob_eq
    (by kernel_rfl) (fun s => by kernel_rfl) K.run (by kernel_rfl) (by kernel_rfl) (by kernel_rfl) (by rfl) (by first | assumption | decide +kernel) (by decide +kernel) ⟨rfl, rfl, rfl, rfl, rfl, by decide +kernel⟩ ?hw ?hc
  case hw => w_witness2
  case hc =>
    refine L2.walk_ofZ (l := PySem.Challenge.rw_romwright_k17_code_words_back) (n := 63) (k := 15) (x := "script") (CX := fun w => L2N.CX (PySem.Challenge.rw_romwright_k17_code_words_back).prog w) rfl (by decide) (by kernel_rfl) ⟨rfl, by decide, by decide⟩ ?F (fun w H s e s' ⟨_, _, _, _, _, _, _, _, _, _, _, _, z⟩ => z)
    intro w mg fa h Y G hmg0
    have hmg : mg ("law" : PySem.Str) = some (.ref fa) := by
      have e : (HandSHeadRun.topDef (OpenLaw.row PySem.Challenge.rw_romwright_k17_code_words_back).prog 24).name = ("law" : PySem.Str) := by kernel_rfl
      rw [← e]
      exact hmg0
    exact K.facts Y G hmg
