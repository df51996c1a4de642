import PyProof.Rows.All
import Wide.All
import OpenK.AllK
import Wide.FinOn
import HandS.ForMost
import HandS.Flow
import HandS.Exc
import HandS.ExcOwn
import HandS.ExcInit
import HandS.WordsExc
import HandS.Wide
import HandS.WideBits
import HandS.TupAny
import HandS.IsInst
import HandS.Conv
import PySem.Challenge.RW_romwright_k40_spoilt_tables
set_option Elab.async false
set_option linter.all false
set_option maxRecDepth 100000
set_option maxHeartbeats 4000000
/-! Deep data over the hand layer: what values are, all the way down, and weakest preconditions that speak of data alone. -/
namespace Zd
open PySem L2

/-! ### data -/
inductive D where
  | non | bl (b : Bool) | int (i : Int) | str (s : Str) | raw (v : V)
  | lst (ds : List D) | tup (ds : List D) | klst (ds : List D)
  | dic (ks : List Key) (ds : List D)
  | obj (C : Addr) (ks : List Str) (ds : List D)

/-- a tuple that stands, or of the written part -/
def SqU (K : PySem.W.Frag) (H : Hp) (a : Addr) (xs : List V) : Prop :=
  H a = some (.tup xs) ∨ ∃ (o : Obj) (its : Array Value) (n : Nat), K.lookup a = some o ∧ o.cls = .type "tuple" ∧ o.data = .seq its n ∧ its.size ≤ sizeLine ∧ Vals xs its.toList
theorem SqU.t {K : PySem.W.Frag} {H : Hp} {a : Addr} {xs : List V} (h : SqU K H a xs) : SqT K H a xs := by
  rcases h with h | h
  · exact .inl (.inl h)
  · exact .inr h
mutual
def Rep (K : PySem.W.Frag) (I : Hp) : D → V → Prop
  | .non, v => v = .non
  | .bl b, v => v = .bl b
  | .int i, v => v = .int i
  | .str s, v => v = .str s
  | .raw u, v => v = u
  | .lst ds, v => ∃ a xs, v = .ref a ∧ I a = some (.lst xs) ∧ Reps K I ds xs
  | .klst ds, v => ∃ a xs, v = .ref a ∧ SqL K I a xs ∧ Reps K I ds xs
  | .tup ds, v => ∃ a xs, v = .ref a ∧ SqU K I a xs ∧ Reps K I ds xs
  | .dic ks ds, v => ∃ a kvs, v = .ref a ∧ Rd I a (.dK kvs) ∧ kvs.map (·.1) = ks ∧ Reps K I ds (kvs.map (·.2))
  | .obj C ks ds, v => ∃ a dx fs, v = .ref a ∧ I a = some (.ins C dx fs) ∧ fs.map (·.1) = ks ∧ Reps K I ds (fs.map (·.2))
def Reps (K : PySem.W.Frag) (I : Hp) : List D → List V → Prop
  | [], vs => vs = []
  | d :: ds, vs => ∃ v r, vs = v :: r ∧ Rep K I d v ∧ Reps K I ds r
end

/-- what is known stays known -/
abbrev Le (I I' : Hp) : Prop := ∀ a o, I a = some o → I' a = some o
theorem Le.rd {I I' : Hp} {a : Addr} {u : HO} (e : Le I I') (h : Rd I a u) : Rd I' a u := by
  rcases h with h | ⟨o, h⟩
  · exact .inl (e _ _ h)
  · exact .inr ⟨o, e _ _ h⟩
theorem Le.sqL {K : PySem.W.Frag} {I I' : Hp} {a : Addr} {xs : List V} (e : Le I I') (h : SqL K I a xs) : SqL K I' a xs := by
  rcases h with h | h
  · exact .inl (e.rd h)
  · exact .inr h
theorem Le.sqT {K : PySem.W.Frag} {I I' : Hp} {a : Addr} {xs : List V} (e : Le I I') (h : SqT K I a xs) : SqT K I' a xs := by
  rcases h with h | h
  · exact .inl (e.rd h)
  · exact .inr h
theorem Le.sqU {K : PySem.W.Frag} {I I' : Hp} {a : Addr} {xs : List V} (e : Le I I') (h : SqU K I a xs) : SqU K I' a xs := by
  rcases h with h | h
  · exact .inl (e _ _ h)
  · exact .inr h
theorem Le.trans {I I1 I2 : Hp} (a : Le I I1) (b : Le I1 I2) : Le I I2 := fun x o h => b x o (a x o h)
theorem Le.refl (I : Hp) : Le I I := fun _ _ h => h
theorem Le.new {I : Hp} {p : Addr} {o : HO} (h : I p = none) : Le I (upd I p o) := fun a u e => by
  rw [upd_ne (ne_of_none e h)]; exact e

section
variable {K : PySem.W.Frag} {I I' : Hp}
mutual
theorem Rep.mono (e : Le I I') : ∀ (d : D) (v : V), Rep K I d v → Rep K I' d v
  | .non, _, h => h
  | .bl _, _, h => h
  | .int _, _, h => h
  | .str _, _, h => h
  | .raw _, _, h => h
  | .lst ds, _, h => by
    obtain ⟨a, xs, h1, h2, h3⟩ := h
    exact ⟨a, xs, h1, e _ _ h2, Reps.mono e ds xs h3⟩
  | .klst ds, _, h => by
    obtain ⟨a, xs, h1, h2, h3⟩ := h
    exact ⟨a, xs, h1, e.sqL h2, Reps.mono e ds xs h3⟩
  | .tup ds, _, h => by
    obtain ⟨a, xs, h1, h2, h3⟩ := h
    exact ⟨a, xs, h1, e.sqU h2, Reps.mono e ds xs h3⟩
  | .dic ks ds, _, h => by
    obtain ⟨a, kvs, h1, h2, h3, h4⟩ := h
    exact ⟨a, kvs, h1, e.rd h2, h3, Reps.mono e ds _ h4⟩
  | .obj C ks ds, _, h => by
    obtain ⟨a, dx, fs, h1, h2, h3, h4⟩ := h
    exact ⟨a, dx, fs, h1, e _ _ h2, h3, Reps.mono e ds _ h4⟩
theorem Reps.mono (e : Le I I') : ∀ (ds : List D) (vs : List V), Reps K I ds vs → Reps K I' ds vs
  | [], _, h => h
  | d :: ds, _, h => by
    obtain ⟨v, r, h1, h2, h3⟩ := h
    exact ⟨v, r, h1, Rep.mono e d v h2, Reps.mono e ds r h3⟩
end
theorem Reps.nil : Reps K I [] [] := rfl
theorem Reps.cons {d : D} {v : V} {ds : List D} {vs : List V} (h : Rep K I d v) (r : Reps K I ds vs) : Reps K I (d :: ds) (v :: vs) := ⟨v, vs, rfl, h, r⟩
theorem Reps.length : ∀ {ds : List D} {vs : List V}, Reps K I ds vs → vs.length = ds.length
  | [], _, h => by cases (show _ = _ from h); rfl
  | d :: ds, _, h => by
    obtain ⟨v, r, rfl, _, h3⟩ := h
    rw [List.length_cons, List.length_cons, Reps.length h3]
theorem Reps.get : ∀ {ds : List D} {vs : List V} {i : Nat} {d : D}, Reps K I ds vs → ds[i]? = some d → ∃ v, vs[i]? = some v ∧ Rep K I d v
  | [], _, _, _, _, e => by simp at e
  | d :: ds, _, 0, d', h, e => by
    obtain ⟨v, r, rfl, h2, _⟩ := h
    simp at e; subst e
    exact ⟨v, rfl, h2⟩
  | d :: ds, _, i + 1, d', h, e => by
    obtain ⟨v, r, rfl, _, h3⟩ := h
    obtain ⟨u, e1, e2⟩ := Reps.get (i := i) h3 (by simpa using e)
    exact ⟨u, by simpa using e1, e2⟩
theorem Reps.get' : ∀ {ds : List D} {vs : List V} {i : Nat} {v : V}, Reps K I ds vs → vs[i]? = some v → ∃ d, ds[i]? = some d ∧ Rep K I d v := fun {ds vs i v} h e => by
  have hl := h.length
  have hi : i < ds.length := by
    rw [← hl]
    exact (List.getElem?_eq_some_iff.mp e).1
  obtain ⟨u, e1, e2⟩ := h.get (List.getElem?_eq_getElem hi)
  rw [e] at e1; cases e1
  exact ⟨_, List.getElem?_eq_getElem hi, e2⟩
theorem Reps.append : ∀ {ds : List D} {vs : List V} {es : List D} {us : List V}, Reps K I ds vs → Reps K I es us → Reps K I (ds ++ es) (vs ++ us)
  | [], _, _, _, h, g => by cases (show _ = _ from h); exact g
  | d :: ds, _, _, _, h, g => by
    obtain ⟨v, r, rfl, h2, h3⟩ := h
    exact ⟨v, _, rfl, h2, Reps.append h3 g⟩
theorem Reps.set : ∀ {ds : List D} {vs : List V} {d : D} {v : V} (i : Nat), Reps K I ds vs → Rep K I d v → Reps K I (ds.set i d) (vs.set i v)
  | [], _, _, _, _, h, g => by cases (show _ = _ from h); exact Reps.nil
  | d :: ds, _, _, _, 0, h, g => by
    obtain ⟨v, r, rfl, h2, h3⟩ := h
    exact ⟨_, r, rfl, g, h3⟩
  | d :: ds, _, _, _, i + 1, h, g => by
    obtain ⟨v, r, rfl, h2, h3⟩ := h
    exact ⟨v, _, rfl, h2, Reps.set i h3 g⟩
theorem Reps.take : ∀ {ds : List D} {vs : List V} (n : Nat), Reps K I ds vs → Reps K I (ds.take n) (vs.take n)
  | _, _, 0, _ => rfl
  | [], _, n + 1, h => by cases (show _ = _ from h); exact Reps.nil
  | d :: ds, _, n + 1, h => by
    obtain ⟨v, r, rfl, h2, h3⟩ := h
    exact ⟨v, _, rfl, h2, Reps.take n h3⟩
theorem Reps.drop : ∀ {ds : List D} {vs : List V} (n : Nat), Reps K I ds vs → Reps K I (ds.drop n) (vs.drop n)
  | _, _, 0, h => h
  | [], _, n + 1, h => by cases (show _ = _ from h); exact Reps.nil
  | d :: ds, _, n + 1, h => by
    obtain ⟨v, r, rfl, h2, h3⟩ := h
    exact Reps.drop n h3
theorem Reps.ints : ∀ {ns : List Int} {vs : List V}, Reps K I (ns.map D.int) vs → vs = ns.map V.int
  | [], _, h => h
  | n :: ns, _, h => by
    obtain ⟨v, r, rfl, h2, h3⟩ := h
    have h2 : v = V.int n := h2
    rw [h2, Reps.ints h3]; rfl
theorem Reps.of_ints : ∀ (ns : List Int), Reps K I (ns.map D.int) (ns.map V.int)
  | [] => rfl
  | n :: ns => ⟨_, _, rfl, rfl, Reps.of_ints ns⟩
theorem Reps.bls : ∀ {ns : List Bool} {vs : List V}, Reps K I (ns.map D.bl) vs → vs = ns.map V.bl
  | [], _, h => h
  | n :: ns, _, h => by
    obtain ⟨v, r, rfl, h2, h3⟩ := h
    have h2 : v = V.bl n := h2
    rw [h2, Reps.bls h3]; rfl
theorem Reps.strs : ∀ {ns : List Str} {vs : List V}, Reps K I (ns.map D.str) vs → vs = ns.map V.str
  | [], _, h => h
  | n :: ns, _, h => by
    obtain ⟨v, r, rfl, h2, h3⟩ := h
    have h2 : v = V.str n := h2
    rw [h2, Reps.strs h3]; rfl
theorem Reps.of_strs : ∀ (ns : List Str), Reps K I (ns.map D.str) (ns.map V.str)
  | [] => rfl
  | n :: ns => ⟨_, _, rfl, rfl, Reps.of_strs ns⟩
end

/-! ### things of one's own: they may change -/
inductive Cell where
  | lst (ds : List D)
  | dic (ks : List Key) (ds : List D)
  | obj (C : Addr) (ks : List Str) (ds : List D)
  /-- a list of which only this is known -/
  | ab (P : List D → Prop)

def CellR (K : PySem.W.Frag) (I H : Hp) (p : Addr) : Cell → Prop
  | .lst ds => ∃ xs, H p = some (.lst xs) ∧ Reps K I ds xs
  | .dic ks ds => ∃ kvs, H p = some (.dK kvs) ∧ kvs.map (·.1) = ks ∧ Reps K I ds (kvs.map (·.2))
  | .obj C ks ds => ∃ dx fs, H p = some (.ins C dx fs) ∧ fs.map (·.1) = ks ∧ Reps K I ds (fs.map (·.2))
  | .ab P => ∃ ds xs, H p = some (.lst xs) ∧ Reps K I ds xs ∧ P ds
theorem CellR.mono {K : PySem.W.Frag} {I I' H H' : Hp} {p : Addr} {c : Cell} (e : Le I I') (h : ∀ o, H p = some o → H' p = some o) (x : CellR K I H p c) : CellR K I' H' p c := by
  cases c with
  | lst ds => obtain ⟨xs, h1, h2⟩ := x; exact ⟨xs, h _ h1, Reps.mono e _ _ h2⟩
  | dic ks ds => obtain ⟨xs, h1, h2, h3⟩ := x; exact ⟨xs, h _ h1, h2, Reps.mono e _ _ h3⟩
  | obj C ks ds => obtain ⟨dx, xs, h1, h2, h3⟩ := x; exact ⟨dx, xs, h _ h1, h2, Reps.mono e _ _ h3⟩
  | ab P => obtain ⟨ds, xs, h1, h2, h3⟩ := x; exact ⟨ds, xs, h _ h1, Reps.mono e _ _ h2, h3⟩
theorem CellR.there {K : PySem.W.Frag} {I H : Hp} {p : Addr} {c : Cell} (x : CellR K I H p c) : ∃ o, H p = some o := by
  cases c with
  | lst ds => obtain ⟨xs, h1, _⟩ := x; exact ⟨_, h1⟩
  | dic ks ds => obtain ⟨xs, h1, _⟩ := x; exact ⟨_, h1⟩
  | obj C ks ds => obtain ⟨dx, xs, h1, _⟩ := x; exact ⟨_, h1⟩
  | ab P => obtain ⟨ds, xs, h1, _⟩ := x; exact ⟨_, h1⟩
/-- the thing, once nobody changes it any more -/
def Cell.toD (p : Addr) : Cell → D
  | .lst ds => .lst ds
  | .dic ks ds => .dic ks ds
  | .obj C ks ds => .obj C ks ds
  | .ab _ => .raw (.ref p)

/-! ### what a slot holds -/
inductive DV where
  | no
  | val (d : D)
  | own (p : Addr) (c : Cell)
abbrev Env := List DV
def DV.toD : DV → D
  | .no => .non
  | .val d => d
  | .own p c => c.toD p

/-- the data of a result, held fast -/
inductive Fast : DV → D → Prop where
  | val {d : D} : Fast (.val d) d
  | lst {p : Addr} {ds : List D} : Fast (.own p (.lst ds)) (.lst ds)
  | dic {p : Addr} {ks : List Key} {ds : List D} : Fast (.own p (.dic ks ds)) (.dic ks ds)
  | obj {p C : Addr} {ks : List Str} {ds : List D} : Fast (.own p (.obj C ks ds)) (.obj C ks ds)
  | ab {p : Addr} {P : List D → Prop} : Fast (.own p (.ab P)) (.raw (.ref p))
theorem Fast.ne {r : DV} {d : D} (h : Fast r d) : r ≠ .no := by
  intro e
  subst e
  cases h
theorem Fast.eq {r : DV} {d : D} (h : Fast r d) : r.toD = d := by
  cases h <;> rfl

structure EnvR (K : PySem.W.Frag) (I H : Hp) (σ : St) (δ : Env) : Prop where
  sub : Le I H
  len : σ.length = δ.length
  val : ∀ (i : Nat) d, δ[i]? = some (.val d) → ∃ v, σ[i]? = some (some v) ∧ Rep K I d v
  own : ∀ (i : Nat) p c, δ[i]? = some (.own p c) → σ[i]? = some (some (.ref p)) ∧ I p = none ∧ CellR K I H p c
  inj : ∀ (i j : Nat) p c c', δ[i]? = some (.own p c) → δ[j]? = some (.own p c') → i = j
def Own (δ : Env) (a : Addr) : Prop := ∃ (i : Nat) (c : Cell), δ[i]? = some (.own a c)

/-- from one state to a later one: P are the addresses that were owned, P' those that are -/
structure Goes (P P' : Addr → Prop) (I H I' H' : Hp) : Prop where
  le : Le I I'
  keep : ∀ a o, H a = some o → I a = none → ¬ P a → H' a = some o ∧ I' a = none
  new : ∀ a, P' a → P a ∨ H a = none
theorem Goes.refl {P : Addr → Prop} {I H : Hp} : Goes P P I H I H := ⟨Le.refl _, fun _ _ h i _ => ⟨h, i⟩, fun _ h => .inl h⟩
theorem Goes.trans {P P1 P2 : Addr → Prop} {I H I1 H1 I2 H2 : Hp} (a : Goes P P1 I H I1 H1) (b : Goes P1 P2 I1 H1 I2 H2) (s1 : Le I1 H1) : Goes P P2 I H I2 H2 := by
  refine ⟨a.le.trans b.le, fun x o h i np => ?_, fun x hx => ?_⟩
  · obtain ⟨h1, i1⟩ := a.keep x o h i np
    refine b.keep x o h1 i1 fun hp => ?_
    rcases a.new x hp with q | q
    · exact np q
    · rw [h] at q; cases q
  · rcases b.new x hx with q | q
    · exact a.new x q
    · cases hH : H x with
      | none => exact .inr rfl
      | some o =>
        refine .inl (Classical.byContradiction fun np => ?_)
        cases hI : I x with
        | none =>
          obtain ⟨h1, _⟩ := a.keep x o hH hI np
          rw [h1] at q; cases q
        | some u =>
          have := s1 _ _ (a.le _ _ hI)
          rw [this] at q; cases q
theorem Goes.sub {P P' P1 : Addr → Prop} {I H I' H' : Hp} (a : Goes P P' I H I' H') (h : ∀ x, P1 x → P' x) : Goes P P1 I H I' H' := ⟨a.le, a.keep, fun x hx => a.new x (h x hx)⟩
/-- nothing that stood is changed -/
theorem Goes.grow {P : Addr → Prop} {I H I' H' : Hp} (le : Le I I') (hh : ∀ a o, H a = some o → H' a = some o) (nw : ∀ a o, H a = some o → I a = none → I' a = none) : Goes P P I H I' H' :=
  ⟨le, fun a o h i _ => ⟨hh a o h, nw a o h i⟩, fun _ h => .inl h⟩

/-! ### the two lists kept in step -/
section
variable {K : PySem.W.Frag} {I H I' H' : Hp} {σ : St} {δ : Env}
theorem EnvR.grow (x : EnvR K I H σ δ) (le : Le I I') (s : Le I' H') (hh : ∀ a o, H a = some o → H' a = some o) (nw : ∀ a o, H a = some o → I a = none → I' a = none) : EnvR K I' H' σ δ := by
  refine ⟨s, x.len, fun i d h => ?_, fun i p c h => ?_, x.inj⟩
  · obtain ⟨v, h1, h2⟩ := x.val i d h
    exact ⟨v, h1, Rep.mono le _ _ h2⟩
  · obtain ⟨h1, h2, h3⟩ := x.own i p c h
    obtain ⟨o, ho⟩ := h3.there
    exact ⟨h1, nw p o ho h2, h3.mono le (hh p)⟩
theorem EnvR.tail {v : Option V} {r : DV} (x : EnvR K I H (v :: σ) (r :: δ)) : EnvR K I H σ δ := by
  refine ⟨x.sub, ?_, fun i d h => ?_, fun i p c h => ?_, fun i j p c c' h1 h2 => ?_⟩
  · have := x.len
    simpa using this
  · obtain ⟨v, h1, h2⟩ := x.val (i + 1) d (by simpa using h)
    exact ⟨v, by simpa using h1, h2⟩
  · obtain ⟨h1, h2⟩ := x.own (i + 1) p c (by simpa using h)
    exact ⟨by simpa using h1, h2⟩
  · have := x.inj (i + 1) (j + 1) p c c' (by simpa using h1) (by simpa using h2)
    omega
theorem Own.tail {r : DV} {a : Addr} (h : Own δ a) : Own (r :: δ) a := by
  obtain ⟨i, c, h⟩ := h
  exact ⟨i + 1, c, by simpa using h⟩
theorem EnvR.cons_val {v : V} {d : D} (x : EnvR K I H σ δ) (h : Rep K I d v) : EnvR K I H (some v :: σ) (.val d :: δ) := by
  refine ⟨x.sub, by simp [x.len], fun i d' e => ?_, fun i p c e => ?_, fun i j p c c' e1 e2 => ?_⟩
  · cases i with
    | zero => simp at e; subst e; exact ⟨v, rfl, h⟩
    | succ i => simpa using x.val i d' (by simpa using e)
  · cases i with
    | zero => simp at e
    | succ i => simpa using x.own i p c (by simpa using e)
  · cases i with
    | zero => simp at e1
    | succ i =>
      cases j with
      | zero => simp at e2
      | succ j => rw [x.inj i j p c c' (by simpa using e1) (by simpa using e2)]
theorem own_cons_val {d : D} {a : Addr} : Own (.val d :: δ) a ↔ Own δ a := by
  constructor
  · rintro ⟨i, c, h⟩
    cases i with
    | zero => simp at h
    | succ i => exact ⟨i, c, by simpa using h⟩
  · exact Own.tail
theorem EnvR.cons_own {p : Addr} {c : Cell} (x : EnvR K I H σ δ) (hn : ¬ Own δ p) (hi : I p = none) (h : CellR K I H p c) : EnvR K I H (some (.ref p) :: σ) (.own p c :: δ) := by
  refine ⟨x.sub, by simp [x.len], fun i d' e => ?_, fun i p' c' e => ?_, fun i j p' c1 c2 e1 e2 => ?_⟩
  · cases i with
    | zero => simp at e
    | succ i => simpa using x.val i d' (by simpa using e)
  · cases i with
    | zero =>
      simp at e
      obtain ⟨rfl, rfl⟩ := e
      exact ⟨rfl, hi, h⟩
    | succ i => simpa using x.own i p' c' (by simpa using e)
  · cases i with
    | zero =>
      cases j with
      | zero => rfl
      | succ j =>
        simp at e1
        obtain ⟨rfl, rfl⟩ := e1
        exact absurd ⟨j, c2, by simpa using e2⟩ hn
    | succ i =>
      cases j with
      | zero =>
        simp at e2
        obtain ⟨rfl, rfl⟩ := e2
        exact absurd ⟨i, c1, by simpa using e1⟩ hn
      | succ j => rw [x.inj i j p' c1 c2 (by simpa using e1) (by simpa using e2)]
theorem EnvR.head_val {v : Option V} {d : D} (x : EnvR K I H (v :: σ) (.val d :: δ)) : ∃ u, v = some u ∧ Rep K I d u := by
  obtain ⟨u, h1, h2⟩ := x.val 0 d rfl
  simp at h1
  exact ⟨u, h1, h2⟩
theorem EnvR.head_own {v : Option V} {p : Addr} {c : Cell} (x : EnvR K I H (v :: σ) (.own p c :: δ)) : v = some (.ref p) ∧ I p = none ∧ CellR K I H p c ∧ ¬ Own δ p := by
  obtain ⟨h1, h2, h3⟩ := x.own 0 p c rfl
  refine ⟨by simpa using h1, h2, h3, fun ⟨i, c', h⟩ => ?_⟩
  have := x.inj 0 (i + 1) p c c' rfl (by simpa using h)
  omega
/-- the value on top becomes what slot i holds -/
theorem EnvR.set {v : Option V} {r : DV} (x : EnvR K I H (v :: σ) (r :: δ)) (i : Nat) : EnvR K I H (σ.set i v) (δ.set i r) := by
  have key : ∀ (j : Nat) (y : DV), (δ.set i r)[j]? = some y → (j = i ∧ y = r ∧ i < δ.length) ∨ (j ≠ i ∧ δ[j]? = some y) := fun j y e => by
    by_cases hj : j = i
    · subst hj
      have hl : j < δ.length := by
        have := (List.getElem?_eq_some_iff.mp e).1
        simpa using this
      rw [List.getElem?_set_self hl] at e
      exact .inl ⟨rfl, (Option.some.inj e).symm, hl⟩
    · rw [List.getElem?_set_ne (Ne.symm hj)] at e
      exact .inr ⟨hj, e⟩
  have hlen : σ.length = δ.length := by
    have := x.len
    simpa using this
  have lk : ∀ (j : Nat) (y : DV), (δ.set i r)[j]? = some y → ∃ k : Nat, (r :: δ)[k]? = some y ∧ (σ.set i v)[j]? = (v :: σ)[k]? ∧ (k = 0 → j = i) ∧ ∀ m, k = m + 1 → j = m ∧ j ≠ i := fun j y e => by
    rcases key j y e with ⟨rfl, rfl, hl⟩ | ⟨hj, e'⟩
    · refine ⟨0, rfl, ?_, fun _ => rfl, fun m h => absurd h (by omega)⟩
      rw [List.getElem?_set_self (by omega)]
      rfl
    · refine ⟨j + 1, by simpa using e', ?_, fun h => absurd h (by omega), fun m h => ⟨by omega, hj⟩⟩
      rw [List.getElem?_set_ne (Ne.symm hj)]
      simp
  refine ⟨x.sub, by simp [hlen], fun j d e => ?_, fun j p c e => ?_, fun j k p c c' e1 e2 => ?_⟩
  · obtain ⟨k, h1, h2, _⟩ := lk j _ e
    obtain ⟨u, h3, h4⟩ := x.val k d h1
    exact ⟨u, h2.trans h3, h4⟩
  · obtain ⟨k, h1, h2, _⟩ := lk j _ e
    obtain ⟨h3, h4⟩ := x.own k p c h1
    exact ⟨h2.trans h3, h4⟩
  · obtain ⟨a, h1, _, z1, s1⟩ := lk j _ e1
    obtain ⟨b, h2, _, z2, s2⟩ := lk k _ e2
    have hab := x.inj a b p c c' h1 h2
    subst hab
    cases a with
    | zero => rw [z1 rfl, z2 rfl]
    | succ m => rw [(s1 m rfl).1, (s2 m rfl).1]
theorem own_set {r : DV} {i : Nat} {a : Addr} (h : Own (δ.set i r) a) : Own (r :: δ) a := by
  obtain ⟨j, c, e⟩ := h
  by_cases hj : j = i
  · subst hj
    have hl : j < δ.length := by
      have := (List.getElem?_eq_some_iff.mp e).1
      simpa using this
    rw [List.getElem?_set_self hl] at e
    exact ⟨0, c, e⟩
  · rw [List.getElem?_set_ne (Ne.symm hj)] at e
    exact ⟨j + 1, c, by simpa using e⟩
/-- forget a slot -/
theorem EnvR.forget (x : EnvR K I H σ δ) (i : Nat) (v : Option V) : EnvR K I H (σ.set i v) (δ.set i .no) := by
  have key : ∀ (j : Nat) (y : DV), y ≠ .no → (δ.set i .no)[j]? = some y → j ≠ i ∧ δ[j]? = some y := fun j y hy e => by
    by_cases hj : j = i
    · subst hj
      have hl : j < δ.length := by
        have := (List.getElem?_eq_some_iff.mp e).1
        simpa using this
      rw [List.getElem?_set_self hl] at e
      exact absurd (Option.some.inj e).symm hy
    · rw [List.getElem?_set_ne (Ne.symm hj)] at e
      exact ⟨hj, e⟩
  refine ⟨x.sub, by simp [x.len], fun j d e => ?_, fun j p c e => ?_, fun j k p c c' e1 e2 => ?_⟩
  · obtain ⟨hj, e⟩ := key j _ (by simp) e
    rw [List.getElem?_set_ne (Ne.symm hj)]
    exact x.val j d e
  · obtain ⟨hj, e⟩ := key j _ (by simp) e
    rw [List.getElem?_set_ne (Ne.symm hj)]
    exact x.own j p c e
  · exact x.inj j k p c c' (key j _ (by simp) e1).2 (key k _ (by simp) e2).2
theorem own_forget {i : Nat} {a : Addr} (h : Own (δ.set i .no) a) : Own δ a := by
  obtain ⟨j, c, e⟩ := own_set h
  cases j with
  | zero => simp at e
  | succ j => exact ⟨j, c, by simpa using e⟩
/-- the content of slot i's own thing changes -/
theorem EnvR.upd {i : Nat} {p : Addr} {c c' : Cell} {o : HO} (x : EnvR K I H σ δ) (h : δ[i]? = some (.own p c)) (hc : CellR K I (L2.upd H p o) p c') : EnvR K I (L2.upd H p o) σ (δ.set i (.own p c')) := by
  have hi : i < δ.length := (List.getElem?_eq_some_iff.mp h).1
  obtain ⟨h1, h2, h3⟩ := x.own i p c h
  have key : ∀ (j : Nat) (y : DV), (δ.set i (.own p c'))[j]? = some y → (j = i ∧ y = .own p c') ∨ (j ≠ i ∧ δ[j]? = some y) := fun j y e => by
    by_cases hj : j = i
    · subst hj
      rw [List.getElem?_set_self hi] at e
      exact .inl ⟨rfl, (Option.some.inj e).symm⟩
    · rw [List.getElem?_set_ne (Ne.symm hj)] at e
      exact .inr ⟨hj, e⟩
  refine ⟨fun a u e => ?_, by simp [x.len], fun j d e => ?_, fun j q e' e => ?_, fun j k q c1 c2 e1 e2 => ?_⟩
  · rw [upd_ne (ne_of_none e h2)]
    exact x.sub a u e
  · rcases key j _ e with ⟨_, z⟩ | ⟨_, z⟩
    · cases z
    · exact x.val j d z
  · rcases key j _ e with ⟨z1, z2⟩ | ⟨hj, z⟩
    · cases z2
      rw [z1]
      exact ⟨h1, h2, hc⟩
    · obtain ⟨g1, g2, g3⟩ := x.own j q e' z
      have hq : q ≠ p := fun y => by
        rw [y] at z
        exact hj (x.inj j i p _ _ z h)
      exact ⟨g1, g2, g3.mono (Le.refl _) fun o ho => by rw [upd_ne hq]; exact ho⟩
  · rcases key j _ e1 with ⟨y1, y2⟩ | ⟨hj, y⟩ <;> rcases key k _ e2 with ⟨z1, z2⟩ | ⟨hk, z⟩
    · rw [y1, z1]
    · cases y2
      exact absurd (x.inj k i p _ _ z h) hk
    · cases z2
      exact absurd (x.inj j i p _ _ y h) hj
    · exact x.inj j k q c1 c2 y z
theorem own_upd {i : Nat} {p a : Addr} {c c' : Cell} (h : δ[i]? = some (.own p c)) : Own (δ.set i (.own p c')) a ↔ Own δ a := by
  have hi : i < δ.length := (List.getElem?_eq_some_iff.mp h).1
  constructor
  · rintro ⟨j, c1, e⟩
    by_cases hj : j = i
    · subst hj
      rw [List.getElem?_set_self hi] at e
      cases Option.some.inj e
      exact ⟨j, c, h⟩
    · rw [List.getElem?_set_ne (Ne.symm hj)] at e
      exact ⟨j, c1, e⟩
  · rintro ⟨j, c1, e⟩
    by_cases hj : j = i
    · subst hj
      rw [h] at e
      cases Option.some.inj e
      exact ⟨j, c', by rw [List.getElem?_set_self hi]⟩
    · exact ⟨j, c1, by rw [List.getElem?_set_ne (Ne.symm hj)]; exact e⟩
theorem Goes.upd {i : Nat} {p : Addr} {c c' : Cell} {o : HO} (x : EnvR K I H σ δ) (h : δ[i]? = some (.own p c)) : Goes (Own δ) (Own (δ.set i (.own p c'))) I H I (L2.upd H p o) :=
  ⟨Le.refl _, fun a u ha hi np => ⟨by
    rw [upd_ne]
    · exact ha
    · intro e
      subst e
      exact np ⟨i, c, h⟩, hi⟩, fun a ha => .inl ((own_upd h).mp ha)⟩
/-- an own thing is held fast from now on -/
theorem EnvR.freeze {v : Option V} {p : Addr} {c : Cell} (x : EnvR K I H (v :: σ) (.own p c :: δ)) :
    ∃ I', EnvR K I' H (v :: σ) (.val (c.toD p) :: δ) ∧ Goes (Own (.own p c :: δ)) (Own δ) I H I' H := by
  obtain ⟨hv, hi, hc, hn⟩ := x.head_own
  have x0 := x.tail
  by_cases hab : ∃ P, c = .ab P
  · obtain ⟨P, rfl⟩ := hab
    subst hv
    exact ⟨I, x0.cons_val (d := .raw (.ref p)) rfl, ⟨Le.refl _, fun a o h i _ => ⟨h, i⟩, fun a h => .inl h.tail⟩⟩
  obtain ⟨o, ho⟩ := hc.there
  have le : Le I (L2.upd I p o) := Le.new hi
  have x1 : EnvR K (L2.upd I p o) H σ δ := by
    refine ⟨fun a u e => ?_, x0.len, fun j d e => ?_, fun j q c' e => ?_, x0.inj⟩
    · by_cases ha : a = p
      · subst ha
        rw [upd_same] at e
        cases e
        exact ho
      · rw [upd_ne ha] at e
        exact x0.sub a u e
    · obtain ⟨u, h1, h2⟩ := x0.val j d e
      exact ⟨u, h1, Rep.mono le _ _ h2⟩
    · obtain ⟨h1, h2, h3⟩ := x0.own j q c' e
      have hq : q ≠ p := fun z => by
        subst z
        exact hn ⟨j, c', e⟩
      exact ⟨h1, by rw [upd_ne hq]; exact h2, h3.mono le fun _ h => h⟩
  refine ⟨L2.upd I p o, ?_, ⟨le, fun a u h i np => ⟨h, ?_⟩, fun a h => .inl h.tail⟩⟩
  · subst hv
    refine x1.cons_val ?_
    cases c with
    | lst ds =>
      obtain ⟨xs, h1, h2⟩ := hc
      rw [h1] at ho; cases ho
      exact ⟨p, xs, rfl, upd_same, Reps.mono le _ _ h2⟩
    | dic ks ds =>
      obtain ⟨xs, h1, h2, h3⟩ := hc
      rw [h1] at ho; cases ho
      exact ⟨p, xs, rfl, .inl upd_same, h2, Reps.mono le _ _ h3⟩
    | obj C ks ds =>
      obtain ⟨dx, xs, h1, h2, h3⟩ := hc
      rw [h1] at ho; cases ho
      exact ⟨p, dx, xs, rfl, upd_same, h2, Reps.mono le _ _ h3⟩
    | ab P => exact absurd ⟨P, rfl⟩ hab
  · rw [upd_ne]
    · exact i
    · intro e
      subst e
      exact np ⟨0, c, rfl⟩
end
end Zd

namespace Zd
open PySem L2
/-! ### the canonical readings: each construct read by what it does -/
def we (X : Cx) (e : Expr) : TE := fun σ H Q => ∀ pins s, Inv X pins σ H s → wpAny (model X.prog X.w) X.A (eval e X.env) (EP X pins σ Q) X.xe s
def wt (X : Cx) (e : Expr) : TT := fun σ H Q => ∀ pins s, Inv X pins σ H s → wpAny (model X.prog X.w) X.A (isTrue e X.env (eval e X.env)) (TP X pins σ Q) X.xe s
def ww (X : Cx) (e : Expr) : TT := fun σ H Q => ∀ (whole : Sem Value) pins s, Inv X pins σ H s → wpAny (model X.prog X.w) X.A (isTrue e X.env whole) (TP X pins σ Q) X.xe s
def wa (X : Cx) (es : List Expr) : TA := fun σ H Q => ∀ (pos : Pos) pins s, Inv X pins σ H s → wpAny (model X.prog X.w) X.A (spliced (backTo pos (starEach es X.env))) (AP X pins σ Q) X.xe s
def ws (X : Cx) (st : Stmt) : TS := fun D σ H => ∀ pins s, Inv X pins σ H s → wpAny (model X.prog X.w) X.A (exec st X.env) (SP X pins D) X.xe s
def wb (X : Cx) (st : List Stmt) : TS := fun D σ H => ∀ pins s, Inv X pins σ H s → wpAny (model X.prog X.w) X.A (execs st X.env) (SP X pins D) X.xe s
def wg (X : Cx) (target : Expr) : TG := fun v σ H Q => ∀ pins s u, Inv X pins σ H s → RelV v u →
  wpAny (model X.prog X.w) X.A (assign target X.env u) (fun _ s' => ∃ σ' H', Inv X pins σ' H' s' ∧ Q σ' H') X.xe s
def wi (X : Cx) (tg iter : Expr) : TI := fun σ H R => ∀ pins s, Inv X pins σ H s →
  wpAny (model X.prog X.w) X.A (eval iter X.env) (fun v s1 => wpAny (model X.prog X.w) X.A (pyIter v) (PIE X pins σ tg R) X.xe s1) X.xe s
def wop (X : Cx) (f : Value → Value → Sem Value) : R2 := fun x y H Q => ∀ pins s σ v u, Inv X pins σ H s → RelV x v → RelV y u → wpAny (model X.prog X.w) X.A (f v u) (EP X pins σ Q) X.xe s
def wun (X : Cx) (f : Value → Sem Value) : V → Hp → VK → Prop := fun x H Q => ∀ pins s σ v, Inv X pins σ H s → RelV x v → wpAny (model X.prog X.w) X.A (f v) (EP X pins σ Q) X.xe s
def wcall (X : Cx) (f : Value) : List V → Hp → VK → Prop := fun xs H Q => ∀ pins s σ us, Inv X pins σ H s → Vals xs us → wpAny (model X.prog X.w) X.A (call f us) (EP X pins σ Q) X.xe s
section
variable {X : Cx}
theorem _root_.L2.PE.of {e : Expr} : PE X e (we X e) := ⟨fun pins s σ H Q I h => h pins s I⟩
theorem _root_.L2.PT.of {e : Expr} : PT X e (wt X e) := ⟨fun pins s σ H Q I h => h pins s I⟩
theorem _root_.L2.PW.of {e : Expr} : PW X e (ww X e) := ⟨fun whole pins s σ H Q I h => h whole pins s I⟩
theorem _root_.L2.PA.of {e : List Expr} : PA X e (wa X e) := ⟨fun pos pins s σ H Q I h => h pos pins s I⟩
theorem _root_.L2.PS.of {e : Stmt} : PS X e (ws X e) := ⟨fun pins s σ H Q I h => h pins s I⟩
theorem _root_.L2.PSs.of {e : List Stmt} : PSs X e (wb X e) := ⟨fun pins s σ H Q I h => h pins s I⟩
theorem _root_.L2.PG.of {e : Expr} : PG X e (wg X e) := ⟨fun pins s σ H v u Q I r h => h pins s u I r⟩
theorem _root_.L2.PI.of {t e : Expr} : PI X t e (wi X t e) := ⟨fun pins s σ H Q I h => h pins s I⟩
theorem _root_.L2.OpR.of {f : Value → Value → Sem Value} : OpR X f (wop X f) := fun pins s σ H x y v u Q I rx ry h => h pins s σ v u I rx ry
theorem _root_.L2.UnR.of {f : Value → Sem Value} : UnR X f (wun X f) := fun pins s σ H x v Q I rx h => h pins s σ v I rx
theorem _root_.L2.CallR.of {f : Value} : CallR X f (wcall X f) := fun pins s σ H xs us Q I r h => h pins s σ us I r
theorem _root_.L2.PE.to {e : Expr} {t : TE} {σ : St} {H : Hp} {Q : VK} (p : PE X e t) (h : t σ H Q) : we X e σ H Q := fun pins s I => p.run pins s σ H Q I h
theorem _root_.L2.PT.to {e : Expr} {t : TT} {σ : St} {H : Hp} {Q : Bool → Hp → Prop} (p : PT X e t) (h : t σ H Q) : wt X e σ H Q := fun pins s I => p.run pins s σ H Q I h
theorem _root_.L2.PW.to {e : Expr} {t : TT} {σ : St} {H : Hp} {Q : Bool → Hp → Prop} (p : PW X e t) (h : t σ H Q) : ww X e σ H Q := fun whole pins s I => p.run whole pins s σ H Q I h
theorem _root_.L2.PA.to {e : List Expr} {t : TA} {σ : St} {H : Hp} {Q : List V → Hp → Prop} (p : PA X e t) (h : t σ H Q) : wa X e σ H Q := fun pos pins s I => p.run pos pins s σ H Q I h
theorem _root_.L2.PS.to {e : Stmt} {t : TS} {σ : St} {H : Hp} {Q : Ends} (p : PS X e t) (h : t Q σ H) : ws X e Q σ H := fun pins s I => p.run pins s σ H Q I h
theorem _root_.L2.PSs.to {e : List Stmt} {t : TS} {σ : St} {H : Hp} {Q : Ends} (p : PSs X e t) (h : t Q σ H) : wb X e Q σ H := fun pins s I => p.run pins s σ H Q I h
theorem _root_.L2.PG.to {e : Expr} {t : TG} {v : V} {σ : St} {H : Hp} {Q : St → Hp → Prop} (p : PG X e t) (h : t v σ H Q) : wg X e v σ H Q := fun pins s u I r => p.run pins s σ H v u Q I r h
theorem _root_.L2.PI.to {tg e : Expr} {t : TI} {σ : St} {H : Hp} {Q : It → Hp → Prop} (p : PI X tg e t) (h : t σ H Q) : wi X tg e σ H Q := fun pins s I => p.run pins s σ H Q I h
theorem _root_.L2.OpR.to {f : Value → Value → Sem Value} {r : R2} {x y : V} {H : Hp} {Q : VK} (p : OpR X f r) (h : r x y H Q) : wop X f x y H Q := fun pins s σ v u I rx ry => p pins s σ H x y v u Q I rx ry h
theorem _root_.L2.UnR.to {f : Value → Sem Value} {r : V → Hp → VK → Prop} {x : V} {H : Hp} {Q : VK} (p : UnR X f r) (h : r x H Q) : wun X f x H Q := fun pins s σ v I rx => p pins s σ H x v Q I rx h
theorem _root_.L2.CallR.to {f : Value} {r : List V → Hp → VK → Prop} {xs : List V} {H : Hp} {Q : VK} (p : CallR X f r) (h : r xs H Q) : wcall X f xs H Q := fun pins s σ us I rx => p pins s σ H xs us Q I rx h
end
/-- expressions from the left -/
def wes (X : Cx) : List Expr → TA
  | [] => fun _ H Q => Q [] H
  | e :: es => fun σ H Q => we X e σ H fun x H1 => wes X es σ H1 fun xs H2 => Q (x :: xs) H2

/-! ### exceptions as data -/
inductive Exn where
  | mk (C : Addr) (ks : List Str) (ds : List D)
  | plain (cls : Value)
def ExnR (K : PySem.W.Frag) (I H : Hp) (cls : Value) (d : Option Addr) : Exn → Prop
  | .mk C ks ds => cls = .ref C ∧ ∃ dx fs, d = some dx ∧ H dx = some (.xd fs) ∧ fs.map (·.1) = ks ∧ Reps K I ds (fs.map (·.2))
  | .plain c => cls = c ∧ d = none

/-! ### the deep judgements -/
structure Gx where
  X : Cx
  W : WX
  Ξ : Exn → Env → Prop
def XFut (G : Gx) (δ : Env) (I H : Hp) : Prop := ∀ x δ' σ' I' H' cls d, G.Ξ x δ' → EnvR G.X.K I' H' σ' δ' → Goes (Own δ) (Own δ') I H I' H' → ExnR G.X.K I' H' cls d x → G.W cls d σ' H'
theorem XFut.go {G : Gx} {δ δ1 : Env} {I H I1 H1 : Hp} (x : XFut G δ I H) (g : Goes (Own δ) (Own δ1) I H I1 H1) (s : Le I1 H1) : XFut G δ1 I1 H1 :=
  fun e δ' σ' I' H' cls d h1 h2 h3 h4 => x e δ' σ' I' H' cls d h1 h2 (g.trans h3 s) h4
def de (G : Gx) (e : Expr) (δ : Env) (Φ : DV → Env → Prop) : Prop :=
  ∀ σ I H, EnvR G.X.K I H σ δ → XFut G δ I H → ∀ Q : VK, (∀ r δ' v I' H', Φ r δ' → EnvR G.X.K I' H' (some v :: σ) (r :: δ') → Goes (Own δ) (Own (r :: δ')) I H I' H' → Q v H') → we G.X e σ H Q
def dt (G : Gx) (e : Expr) (δ : Env) (Φ : Bool → Env → Prop) : Prop :=
  ∀ σ I H, EnvR G.X.K I H σ δ → XFut G δ I H → ∀ Q : Bool → Hp → Prop, (∀ b δ' I' H', Φ b δ' → EnvR G.X.K I' H' σ δ' → Goes (Own δ) (Own δ') I H I' H' → Q b H') → wt G.X e σ H Q
def dw (G : Gx) (e : Expr) (δ : Env) (Φ : Bool → Env → Prop) : Prop :=
  ∀ σ I H, EnvR G.X.K I H σ δ → XFut G δ I H → ∀ Q : Bool → Hp → Prop, (∀ b δ' I' H', Φ b δ' → EnvR G.X.K I' H' σ δ' → Goes (Own δ) (Own δ') I H I' H' → Q b H') → ww G.X e σ H Q
/-- an operand: a value, or what a slot holds -/
inductive Arg where
  | v (d : D) | s (i : Nat)
def ArgR (K : PySem.W.Frag) (I : Hp) (σ : St) : Arg → V → Prop
  | .v d, u => Rep K I d u
  | .s i, u => σ[i]? = some (some u)
def ArgsR (K : PySem.W.Frag) (I : Hp) (σ : St) : List Arg → List V → Prop
  | [], us => us = []
  | a :: as, us => ∃ u r, us = u :: r ∧ ArgR K I σ a u ∧ ArgsR K I σ as r
def dgs (G : Gx) (es : List Expr) (δ : Env) (Φ : List Arg → Env → Prop) : Prop :=
  ∀ σ I H, EnvR G.X.K I H σ δ → XFut G δ I H → ∀ Q : List V → Hp → Prop, (∀ as δ' vs I' H', Φ as δ' → EnvR G.X.K I' H' σ δ' → ArgsR G.X.K I' σ as vs → Goes (Own δ) (Own δ') I H I' H' → Q vs H') → wes G.X es σ H Q
structure DE where
  nx : Env → Prop
  rt : DV → Env → Prop
  bk : Env → Prop := fun _ => False
  ct : Env → Prop := fun _ => False
structure SFut (G : Gx) (E : DE) (δ : Env) (I H : Hp) (T : Ends) : Prop where
  nx : ∀ σ' δ' I' H', E.nx δ' → EnvR G.X.K I' H' σ' δ' → Goes (Own δ) (Own δ') I H I' H' → T.nx σ' H'
  rt : ∀ r v σ' δ' I' H', E.rt r δ' → EnvR G.X.K I' H' (some v :: σ') (r :: δ') → Goes (Own δ) (Own (r :: δ')) I H I' H' → T.rt v H'
  bk : ∀ σ' δ' I' H', E.bk δ' → EnvR G.X.K I' H' σ' δ' → Goes (Own δ) (Own δ') I H I' H' → T.bk σ' H'
  ct : ∀ σ' δ' I' H', E.ct δ' → EnvR G.X.K I' H' σ' δ' → Goes (Own δ) (Own δ') I H I' H' → T.ct σ' H'
  xc : XFut G δ I H
theorem SFut.go {G : Gx} {E : DE} {δ δ1 : Env} {I H I1 H1 : Hp} {T : Ends} (x : SFut G E δ I H T) (g : Goes (Own δ) (Own δ1) I H I1 H1) (s : Le I1 H1) : SFut G E δ1 I1 H1 T :=
  ⟨fun σ' δ' I' H' a b c => x.nx σ' δ' I' H' a b (g.trans c s), fun r v σ' δ' I' H' a b c => x.rt r v σ' δ' I' H' a b (g.trans c s), fun σ' δ' I' H' a b c => x.bk σ' δ' I' H' a b (g.trans c s), fun σ' δ' I' H' a b c => x.ct σ' δ' I' H' a b (g.trans c s), x.xc.go g s⟩
def ds (G : Gx) (st : Stmt) (δ : Env) (E : DE) : Prop := ∀ σ I H T, EnvR G.X.K I H σ δ → SFut G E δ I H T → ws G.X st T σ H
def dsb (G : Gx) (st : List Stmt) (δ : Env) (E : DE) : Prop := ∀ σ I H T, EnvR G.X.K I H σ δ → SFut G E δ I H T → wb G.X st T σ H

section
variable {G : Gx} {δ : Env} {E : DE}
theorem de_mono {e : Expr} {Φ Φ' : DV → Env → Prop} (h : de G e δ Φ) (m : ∀ r δ', Φ r δ' → Φ' r δ') : de G e δ Φ' := fun σ I H x f Q q => h σ I H x f Q fun r δ' v I' H' a => q r δ' v I' H' (m _ _ a)
theorem dt_mono {e : Expr} {Φ Φ' : Bool → Env → Prop} (h : dt G e δ Φ) (m : ∀ r δ', Φ r δ' → Φ' r δ') : dt G e δ Φ' := fun σ I H x f Q q => h σ I H x f Q fun r δ' I' H' a => q r δ' I' H' (m _ _ a)
/-! ### blocks -/
theorem dsb_nil (h : E.nx δ) : dsb G [] δ E := fun σ I H T x f => pss_nil.to (f.nx σ δ I H h x Goes.refl)
theorem dsb_cons {st : Stmt} {rest : List Stmt} (h : ds G st δ { E with nx := fun δ' => dsb G rest δ' E }) : dsb G (st :: rest) δ E := fun σ I H T x f =>
  (pss_cons PS.of PSs.of).to (h σ I H { T with nx := wb G.X rest T } x ⟨fun σ' δ' I' H' a b c => a σ' I' H' T b (f.go c b.sub), f.rt, f.bk, f.ct, f.xc⟩)
theorem dsb_one {st : Stmt} (h : ds G st δ E) : dsb G [st] δ E := fun σ I H T x f => (pss_one PS.of).to (h σ I H T x f)
theorem ds_pass {pos : Pos} (h : E.nx δ) : ds G (.Pass pos) δ E := fun σ I H T x f => ps_pass.to (f.nx σ δ I H h x Goes.refl)
theorem ds_break {pos : Pos} (h : E.bk δ) : ds G (.Break pos) δ E := fun σ I H T x f => ps_break.to (f.bk σ δ I H h x Goes.refl)
theorem ds_continue {pos : Pos} (h : E.ct δ) : ds G (.Continue pos) δ E := fun σ I H T x f => ps_continue.to (f.ct σ δ I H h x Goes.refl)
theorem Own.of_tail {δ : Env} {r : DV} : ∀ a, Own δ a → Own (r :: δ) a := fun _ h => h.tail
theorem ds_expr {e : Expr} {pos : Pos} (h : de G e δ fun _ δ' => E.nx δ') (hs : swapsWith e none pos.line G.X.env = pure false := by rfl) : ds G (.Expr e pos) δ E := fun σ I H T x f =>
  (ps_expr PE.of hs).to (h σ I H x f.xc (fun _ H1 => T.nx σ H1) fun r δ' v I' H' a b c => f.nx σ δ' I' H' a b.tail (c.sub Own.of_tail))
theorem ds_ret {e : Expr} {pos : Pos} (h : de G e δ E.rt) : ds G (.Return (some e) pos) δ E := fun σ I H T x f =>
  (ps_ret PE.of).to (h σ I H x f.xc T.rt fun r δ' v I' H' a b c => f.rt r v σ δ' I' H' a b c)
theorem ds_retN {pos : Pos} (h : E.rt (.val .non) δ) : ds G (.Return none pos) δ E := fun σ I H T x f =>
  ps_retN.to (f.rt (.val .non) .non σ δ I H h (x.cons_val rfl) (Goes.refl.sub fun a q => own_cons_val.mp q))
theorem ds_if {c : Expr} {a b : List Stmt} {pos : Pos} (h : dt G c δ fun k δ' => if k = true then dsb G a δ' E else dsb G b δ' E) : ds G (.If c a b pos) δ E := fun σ I H T x f =>
  (ps_if PT.of PSs.of PSs.of).to (h σ I H x f.xc _ fun k δ' I' H' q y g => by
    cases k with
    | true =>
      rw [if_pos rfl] at q ⊢
      exact q σ I' H' T y (f.go g y.sub)
    | false =>
      rw [if_neg Bool.false_ne_true] at q ⊢
      exact q σ I' H' T y (f.go g y.sub))
/-- the environment with slot i put to r -/
def Put (δ : Env) (i : Nat) (r : DV) (k : Env → Prop) : Prop := k (δ.set i r)
inductive SetAt : Env → Nat → DV → Env → Prop where
  | z {x r : DV} {δ : Env} : SetAt (x :: δ) 0 r (r :: δ)
  | s {x r : DV} {δ δ' : Env} {i : Nat} : SetAt δ i r δ' → SetAt (x :: δ) (i + 1) r (x :: δ')
theorem SetAt.eq {δ δ' : Env} {i : Nat} {r : DV} (h : SetAt δ i r δ') : δ.set i r = δ' := by
  induction h with
  | z => rfl
  | s _ ih => rw [List.set_cons_succ, ih]
theorem put_go {i : Nat} {r : DV} {δ' : Env} {k : Env → Prop} (s : SetAt δ i r δ') (h : k δ') : Put δ i r k := by
  unfold Put
  rw [s.eq]
  exact h
/-- the place of a name -/
inductive Nth : List Str → Nat → Str → Prop where
  | z {x : Str} {N : List Str} : Nth (x :: N) 0 x
  | s {x y : Str} {N : List Str} {i : Nat} : Nth N i x → Nth (y :: N) (i + 1) x
theorem Nth.eq {N : List Str} {i : Nat} {x : Str} (h : Nth N i x) : N[i]? = some x := by
  induction h with
  | z => rfl
  | s _ ih => simpa using ih
theorem ds_asg {i : Nat} {x : Str} {e : Expr} {pos pos' : Pos} (hi : Nth G.X.N i x) (h : de G e δ fun r δ' => Put δ' i r E.nx) (hN : G.X.N.Nodup) (hx : Loc G.X.env.scope x)
    (hs : swapsWith e (some (.Name x pos')) pos.line G.X.env = pure false) (hf : G.X.fn x = true ∨ G.X.env.scope.names.lookup x = some .local) : ds G (.Assign [.Name x pos'] e pos) δ E := fun σ I H T y f =>
  (ps_set hN hi.eq hx PE.of hs hf).to (h σ I H y f.xc (fun v H1 => T.nx (σ.set i (some v)) H1) fun r δ' v I' H' a b c => f.nx _ _ I' H' a (b.set i) (c.sub fun _ => own_set))

/-! ### operands -/
/-- the value on top is held fast -/
theorem top_fast {K : PySem.W.Frag} {σ : St} {I H I' H' : Hp} {r : DV} {δ' : Env} {v : V} {P : Addr → Prop} (x : EnvR K I' H' (some v :: σ) (r :: δ')) (g : Goes P (Own (r :: δ')) I H I' H') (hr : r ≠ .no) :
    ∃ I'', EnvR K I'' H' σ δ' ∧ Rep K I'' r.toD v ∧ Goes P (Own δ') I H I'' H' := by
  cases r with
  | no => exact absurd rfl hr
  | val d =>
    obtain ⟨u, h1, h2⟩ := x.head_val
    cases h1
    exact ⟨I', x.tail, h2, g.sub fun _ q => q.tail⟩
  | own p c =>
    obtain ⟨I'', y, g2⟩ := x.freeze
    obtain ⟨u, h1, h2⟩ := y.head_val
    cases h1
    exact ⟨I'', y.tail, h2, g.trans g2 x.sub⟩
theorem ArgsR.mono {K : PySem.W.Frag} {I I' : Hp} {σ : St} (e : Le I I') : ∀ (as : List Arg) (vs : List V), ArgsR K I σ as vs → ArgsR K I' σ as vs
  | [], _, h => h
  | .v d :: as, _, h => by
    obtain ⟨u, r, h1, h2, h3⟩ := h
    exact ⟨u, r, h1, Rep.mono e d u h2, ArgsR.mono e as r h3⟩
  | .s i :: as, _, h => by
    obtain ⟨u, r, h1, h2, h3⟩ := h
    exact ⟨u, r, h1, h2, ArgsR.mono e as r h3⟩
theorem we_mono {X : Cx} {e : Expr} {σ : St} {H : Hp} {Q Q' : VK} (h : we X e σ H Q) (m : ∀ v H', Q v H' → Q' v H') : we X e σ H Q' := fun pins s I =>
  thn (h pins s I) fun u s1 ⟨v, H1, I1, r, q⟩ => ⟨v, H1, I1, r, m _ _ q⟩
theorem dgs_nil {Φ : List Arg → Env → Prop} (h : Φ [] δ) : dgs G [] δ Φ := fun σ I H x f Q q => q [] δ [] I H h x rfl Goes.refl
theorem dgs_cons0 {e : Expr} {es : List Expr} {Φ : List Arg → Env → Prop} (h : de G e δ fun r δ1 => r ≠ .no ∧ dgs G es δ1 fun as δ2 => Φ (.v r.toD :: as) δ2) : dgs G (e :: es) δ Φ := fun σ I H x f Q q =>
  h σ I H x f _ fun r δ1 v I1 H1 a b c => by
    obtain ⟨I2, y, rp, g⟩ := top_fast b c a.1
    refine a.2 σ I2 H1 y (f.go g y.sub) _ fun as δ2 vs I3 H3 a3 y3 ar g3 => ?_
    exact q _ δ2 (v :: vs) I3 H3 a3 y3 ⟨v, vs, rfl, Rep.mono g3.le _ _ rp, ar⟩ (g.trans g3 y.sub)
theorem dgs_cons {e : Expr} {es : List Expr} {Φ : List Arg → Env → Prop} (h : de G e δ fun r δ1 => ∃ d, Fast r d ∧ dgs G es δ1 fun as δ2 => Φ (.v d :: as) δ2) : dgs G (e :: es) δ Φ :=
  dgs_cons0 (de_mono h fun r δ' ⟨d, fs, k⟩ => ⟨fs.ne, by rw [fs.eq]; exact k⟩)
theorem we_slot {X : Cx} {i : Nat} {x : Str} {pos : Pos} {v : V} {σ : St} {H : Hp} {Q : VK} (hi : Nth X.N i x) (hv : Vis X.env.scope x) (hd : (x == ("__debug__" : Str)) = false) (hcd : (x == ("__classdict__" : Str)) = false) (h : σ[i]? = some (some v)) (q : Q v H) : we X (.Name x pos) σ H Q :=
  (pe_var hi.eq hv hd hcd).to ⟨v, h, q⟩
/-- a slot's own thing as an operand: it stays where it is -/
theorem dgs_slot {i : Nat} {x : Str} {pos : Pos} {p : Addr} {c : Cell} {es : List Expr} {Φ : List Arg → Env → Prop} (hi : Nth G.X.N i x) (hδ : δ[i]? = some (.own p c)) (h : dgs G es δ fun as δ2 => Φ (.s i :: as) δ2)
    (hv : Vis G.X.env.scope x) (hd : (x == ("__debug__" : Str)) = false) (hcd : (x == ("__classdict__" : Str)) = false) : dgs G (.Name x pos :: es) δ Φ := fun σ I H y f Q q => by
  obtain ⟨h1, h2, h3⟩ := y.own i p c hδ
  refine we_slot hi hv hd hcd h1 ?_
  refine h σ I H y f _ fun as δ2 vs I3 H3 a3 y3 ar g3 => ?_
  exact q _ δ2 (.ref p :: vs) I3 H3 a3 y3 ⟨_, vs, rfl, h1, ar⟩ g3
/-! ### names and constants -/
theorem de_val {i : Nat} {x : Str} {pos : Pos} {d : D} {Φ : DV → Env → Prop} (hi : Nth G.X.N i x) (hδ : δ[i]? = some (.val d)) (h : Φ (.val d) δ)
    (hv : Vis G.X.env.scope x) (hd : (x == ("__debug__" : Str)) = false) (hcd : (x == ("__classdict__" : Str)) = false) : de G (.Name x pos) δ Φ := fun σ I H y f Q q => by
  obtain ⟨v, h1, h2⟩ := y.val i d hδ
  exact we_slot hi hv hd hcd h1 (q _ δ v I H h (y.cons_val h2) (Goes.refl.sub fun a z => own_cons_val.mp z))
/-- what a slot owns goes out (the slot forgets it) -/
theorem de_move {i : Nat} {x : Str} {pos : Pos} {p : Addr} {c : Cell} {Φ : DV → Env → Prop} (hi : Nth G.X.N i x) (hδ : δ[i]? = some (.own p c)) (h : Put δ i .no (Φ (.own p c)))
    (hv : Vis G.X.env.scope x) (hd : (x == ("__debug__" : Str)) = false) (hcd : (x == ("__classdict__" : Str)) = false) : de G (.Name x pos) δ Φ := fun σ I H y f Q q => by
  obtain ⟨h1, h2, h3⟩ := y.own i p c hδ
  have hl : i < δ.length := (List.getElem?_eq_some_iff.mp hδ).1
  have y1 : EnvR G.X.K I H σ (δ.set i .no) := by
    have := y.forget i (some (.ref p))
    have e : σ.set i (some (V.ref p)) = σ := by
      apply List.ext_getElem?
      intro j
      by_cases hj : i = j
      · subst hj
        rw [List.getElem?_set_self (by rw [y.len]; exact hl), h1]
      · rw [List.getElem?_set_ne hj]
    rw [e] at this
    exact this
  have nn : ¬ Own (δ.set i .no) p := fun ⟨j, c', e⟩ => by
    by_cases hj : j = i
    · subst hj
      rw [List.getElem?_set_self hl] at e
      cases e
    · rw [List.getElem?_set_ne (Ne.symm hj)] at e
      exact hj (y.inj j i p _ _ e hδ)
  refine we_slot hi hv hd hcd h1 (q (.own p c) _ (.ref p) I H h (y1.cons_own nn h2 h3) ?_)
  refine ⟨Le.refl _, fun a o ha hi' _ => ⟨ha, hi'⟩, fun a ha => .inl ?_⟩
  obtain ⟨j, c', e⟩ := ha
  cases j with
  | zero =>
    simp at e
    obtain ⟨rfl, rfl⟩ := e
    exact ⟨i, _, hδ⟩
  | succ j => exact own_forget ⟨j, c', by simpa using e⟩
theorem de_const {v : V} {d : D} {e : Expr} {Φ : DV → Env → Prop} (p : PE G.X e (tC v)) (r : ∀ I, Rep G.X.K I d v) (h : Φ (.val d) δ) : de G e δ Φ := fun σ I H y f Q q =>
  p.to (q _ δ v I H h (y.cons_val (r I)) (Goes.refl.sub fun a z => own_cons_val.mp z))
variable {Φ : DV → Env → Prop} {pos : Pos}
theorem de_int {i : Int} {j} (h : Φ (.val (.int i)) δ) : de G (.Constant (.int i) j pos) δ Φ := de_const (d := .int i) pe_int (fun _ => rfl) h
theorem de_bl {b : Bool} {j} (h : Φ (.val (.bl b)) δ) : de G (.Constant (.bool b) j pos) δ Φ := de_const (d := .bl b) pe_bl (fun _ => rfl) h
theorem de_non {j} (h : Φ (.val .non) δ) : de G (.Constant .none j pos) δ Φ := de_const (d := .non) pe_non (fun _ => rfl) h
theorem de_str {x : Str} {j} (h : Φ (.val (.str x)) δ) : de G (.Constant (.str x) j pos) δ Φ := de_const (d := .str x) pe_str (fun _ => rfl) h
theorem de_glob {x : Str} {v : V} {u : Value} {d : D} (hm : G.X.mg x = some u) (r : RelV v u) (rd : ∀ I, Rep G.X.K I d v) (h : Φ (.val d) δ) (hg : Gl G.X x) (hd : (x == ("__debug__" : Str)) = false) : de G (.Name x pos) δ Φ :=
  de_const (pe_glob hg hm r hd) rd h
end
end Zd

namespace Zd
open PySem L2
/-! ### what an operation on data gives -/
structure Res (K : PySem.W.Frag) (I H I' H' : Hp) (r : DV) (v : V) : Prop where
  le : Le I I'
  hh : ∀ a o, H a = some o → H' a = some o
  nw : ∀ a o, H a = some o → I a = none → I' a = none
  sub : Le I' H'
  rel : match r with | .no => False | .val d => Rep K I' d v | .own p c => v = .ref p ∧ I' p = none ∧ H p = none ∧ CellR K I' H' p c
/-- R, given data ds, gives what Ψ allows -/
def DR (K : PySem.W.Frag) (R : List V → Hp → VK → Prop) (ds : List D) (Ψ : DV → Prop) : Prop :=
  ∀ I H vs, Le I H → Reps K I ds vs → ∀ Q : VK, (∀ r v I' H', Ψ r → Res K I H I' H' r v → Q v H') → R vs H Q
theorem Res.val {K : PySem.W.Frag} {I H : Hp} {d : D} {v : V} (s : Le I H) (h : Rep K I d v) : Res K I H I H (.val d) v := ⟨Le.refl _, fun _ _ h => h, fun _ _ _ h => h, s, h⟩
/-- a new object, held fast -/
theorem Res.fast {K : PySem.W.Frag} {I H : Hp} {d : D} {p : Addr} {o : HO} (s : Le I H) (n : H p = none) (h : Rep K (upd I p o) d (.ref p)) : Res K I H (upd I p o) (upd H p o) (.val d) (.ref p) := by
  have ni : I p = none := by
    cases e : I p with
    | none => rfl
    | some u => rw [s _ _ e] at n; cases n
  refine ⟨Le.new ni, Le.new n, fun a u h i => ?_, fun a u e => ?_, h⟩
  · rw [upd_ne (ne_of_none h n)]
    exact i
  · by_cases ha : a = p
    · subst ha
      rw [upd_same] at e ⊢
      exact e
    · rw [upd_ne ha] at e ⊢
      exact s _ _ e
/-- a new object of one's own -/
theorem Res.own {K : PySem.W.Frag} {I H : Hp} {c : Cell} {p : Addr} {o : HO} (s : Le I H) (n : H p = none) (h : CellR K I (upd H p o) p c) : Res K I H I (upd H p o) (.own p c) (.ref p) := by
  have ni : I p = none := by
    cases e : I p with
    | none => rfl
    | some u => rw [s _ _ e] at n; cases n
  exact ⟨Le.refl _, Le.new n, fun _ _ _ i => i, s.trans (Le.new n), rfl, ni, n, h⟩
mutual
def flatD : D → Bool
  | .non => true
  | .bl _ => true
  | .int _ => true
  | .str _ => true
  | .raw _ => true
  | .tup ds => flatDs ds
  | _ => false
def flatDs : List D → Bool
  | [] => true
  | d :: ds => flatD d && flatDs ds
end
def flatV : DV → Bool
  | .no => true
  | .val d => flatD d
  | .own _ (.lst ds) => flatDs ds
  | _ => false
/-- the data of operands; b: something of one's own is among them -/
inductive ArgsD (δ : Env) : List Arg → List D → Bool → Prop where
  | nil : ArgsD δ [] [] false
  | v {d : D} {as : List Arg} {ds : List D} {b : Bool} : ArgsD δ as ds b → ArgsD δ (.v d :: as) (d :: ds) b
  | sv {i : Nat} {d : D} {as : List Arg} {ds : List D} {b : Bool} : δ[i]? = some (.val d) → ArgsD δ as ds b → ArgsD δ (.s i :: as) (d :: ds) b
  | so {i : Nat} {p : Addr} {c : Cell} {d : D} {as : List Arg} {ds : List D} {b : Bool} : δ[i]? = some (.own p c) → Fast (.own p c) d → ArgsD δ as ds b → ArgsD δ (.s i :: as) (d :: ds) true
def notTup : HO → Prop
  | .tup _ => False
  | .frz _ _ => False
  | _ => True
structure Bor (δ : Env) (I1 H1 I2 : Hp) : Prop where
  le : Le I1 I2
  sub : Le I2 H1
  new : ∀ a o, I1 a = none → I2 a = some o → Own δ a ∧ notTup o
theorem Bor.refl {δ : Env} {I H : Hp} (s : Le I H) : Bor δ I H I := ⟨Le.refl _, s, fun a o h h' => by rw [h] at h'; cases h'⟩
theorem borrow {K : PySem.W.Frag} {I H : Hp} {σ : St} {δ : Env} (x : EnvR K I H σ δ) : ∀ {as : List Arg} {vs : List V} {ds : List D} {b : Bool}, ArgsR K I σ as vs → ArgsD δ as ds b →
    ∃ I2, Bor δ I H I2 ∧ Reps K I2 ds vs ∧ (b = false → I2 = I)
  | _, _, _, _, hr, .nil => ⟨I, Bor.refl x.sub, hr, fun _ => rfl⟩
  | _, _, _, _, hr, .v hd => by
    obtain ⟨u, r, rfl, h1, h2⟩ := hr
    obtain ⟨I2, h3, h4, h5⟩ := borrow x h2 hd
    exact ⟨I2, h3, ⟨u, r, rfl, Rep.mono h3.le _ _ h1, h4⟩, h5⟩
  | _, _, _, _, hr, .sv e hd => by
    obtain ⟨u, r, rfl, h1, h2⟩ := hr
    obtain ⟨I2, h3, h4, h5⟩ := borrow x h2 hd
    obtain ⟨v, g1, g2⟩ := x.val _ _ e
    have h1 : _ = some (some u) := h1
    rw [g1] at h1
    cases h1
    exact ⟨I2, h3, ⟨_, r, rfl, Rep.mono h3.le _ _ g2, h4⟩, h5⟩
  | _, _, _, _, hr, .so (p := p) (c := c) e fs hd => by
    cases fs.eq
    obtain ⟨u, r, rfl, h1, h2⟩ := hr
    obtain ⟨I2, h3, h4, h5⟩ := borrow x h2 hd
    obtain ⟨g1, g2, g3⟩ := x.own _ _ _ e
    have h1 : _ = some (some u) := h1
    rw [g1] at h1
    cases h1
    by_cases hab : ∃ P, c = .ab P
    · obtain ⟨P, rfl⟩ := hab
      exact ⟨I2, h3, ⟨_, r, rfl, rfl, h4⟩, fun z => by cases z⟩
    obtain ⟨o, ho⟩ := g3.there
    have le2 : Le I2 (upd I2 p o) := fun a u ha => by
      by_cases hap : a = p
      · rw [hap] at ha ⊢
        have := h3.sub _ _ ha
        rw [ho] at this
        cases this
        exact upd_same
      · rw [upd_ne hap]; exact ha
    have no : notTup o := by
      cases c with
      | lst _ => obtain ⟨_, q, _⟩ := g3; rw [q] at ho; cases ho; trivial
      | dic _ _ => obtain ⟨_, q, _⟩ := g3; rw [q] at ho; cases ho; trivial
      | obj _ _ _ => obtain ⟨_, _, q, _⟩ := g3; rw [q] at ho; cases ho; trivial
      | ab P => exact absurd ⟨P, rfl⟩ hab
    refine ⟨upd I2 p o, ⟨h3.le.trans le2, fun a u ha => ?_, fun a u ha hu => ?_⟩, ⟨_, r, rfl, ?_, Reps.mono le2 _ _ h4⟩, fun z => by cases z⟩
    · by_cases hap : a = p
      · rw [hap] at ha ⊢
        rw [upd_same] at ha
        cases ha
        exact ho
      · rw [upd_ne hap] at ha
        exact h3.sub _ _ ha
    · by_cases hap : a = p
      · rw [hap] at hu ⊢
        rw [upd_same] at hu
        cases hu
        exact ⟨⟨_, _, e⟩, no⟩
      · rw [upd_ne hap] at hu
        exact h3.new a u ha hu
    · have le3 : Le I (upd I2 p o) := h3.le.trans le2
      cases c with
      | lst ds =>
        obtain ⟨xs, q1, q2⟩ := g3
        rw [q1] at ho; cases ho
        exact ⟨p, xs, rfl, upd_same, Reps.mono le3 _ _ q2⟩
      | dic ks ds =>
        obtain ⟨xs, q1, q2, q3⟩ := g3
        rw [q1] at ho; cases ho
        exact ⟨p, xs, rfl, .inl upd_same, q2, Reps.mono le3 _ _ q3⟩
      | obj C ks ds =>
        obtain ⟨dx, xs, q1, q2, q3⟩ := g3
        rw [q1] at ho; cases ho
        exact ⟨p, dx, xs, rfl, upd_same, q2, Reps.mono le3 _ _ q3⟩
      | ab P => exact absurd ⟨P, rfl⟩ hab
/-- I' without what was lent -/
noncomputable def unlend (I1 I2 I' : Hp) : Hp := fun a => open Classical in if I1 a = none ∧ I2 a ≠ none then none else I' a
section
variable {K : PySem.W.Frag} {I1 H1 I2 I' H' : Hp} {σ : St} {δ : Env}
theorem unlend_of {a : Addr} (h : ¬ (I1 a = none ∧ I2 a ≠ none)) : unlend I1 I2 I' a = I' a := by
  unfold unlend
  rw [if_neg h]
theorem unlend_none {a : Addr} (h : I1 a = none ∧ I2 a ≠ none) : unlend I1 I2 I' a = none := by
  unfold unlend
  rw [if_pos h]
theorem unlend_le (l : Le I' H') : Le (unlend I1 I2 I') H' := fun a o h => by
  by_cases hc : I1 a = none ∧ I2 a ≠ none
  · rw [unlend_none hc] at h; cases h
  · rw [unlend_of hc] at h; exact l _ _ h
theorem unlend_low (l : Le I1 I') : Le I1 (unlend I1 I2 I') := fun a o h => by
  rw [unlend_of (fun hc => by rw [hc.1] at h; cases h)]
  exact l _ _ h
mutual
theorem flat_rep (b : Bor δ I1 H1 I2) (l : Le I2 I') : ∀ (d : D) (v : V), flatD d = true → Rep K I' d v → Rep K (unlend I1 I2 I') d v
  | .non, _, _, h => h
  | .bl _, _, _, h => h
  | .int _, _, _, h => h
  | .str _, _, _, h => h
  | .raw _, _, _, h => h
  | .lst _, _, f, _ => by simp [flatD] at f
  | .klst _, _, f, _ => by simp [flatD] at f
  | .dic _ _, _, f, _ => by simp [flatD] at f
  | .obj _ _ _, _, f, _ => by simp [flatD] at f
  | .tup ds, _, f, h => by
    obtain ⟨a, xs, h1, h2, h3⟩ := h
    refine ⟨a, xs, h1, ?_, flat_reps b l ds xs (by simpa [flatD] using f) h3⟩
    rcases h2 with h2 | h2
    · have na : ¬ (I1 a = none ∧ I2 a ≠ none) := fun ⟨n1, n2⟩ => by
        cases e : I2 a with
        | none => exact n2 e
        | some o =>
          have := (b.new a o n1 e).2
          have e' := l _ _ e
          rw [h2] at e'; cases e'; exact this
      exact .inl (by rw [unlend_of na]; exact h2)
    · exact .inr h2
theorem flat_reps (b : Bor δ I1 H1 I2) (l : Le I2 I') : ∀ (ds : List D) (vs : List V), flatDs ds = true → Reps K I' ds vs → Reps K (unlend I1 I2 I') ds vs
  | [], _, _, h => h
  | d :: ds, _, f, h => by
    obtain ⟨v, r, h1, h2, h3⟩ := h
    simp [flatDs] at f
    exact ⟨v, r, h1, flat_rep b l d v f.1 h2, flat_reps b l ds r f.2 h3⟩
end
/-- behind an operation on operands some of which were lent -/
theorem unlent {r : DV} {v : V} {b : Bool} (x : EnvR K I1 H1 σ δ) (bo : Bor δ I1 H1 I2) (hb : b = false → I2 = I1) (hf : b = true → flatV r = true) (re : Res K I2 H1 I' H' r v) :
    ∃ I'', EnvR K I'' H' (some v :: σ) (r :: δ) ∧ Goes (Own δ) (Own (r :: δ)) I1 H1 I'' H' := by
  have nr : r ≠ .no := fun e => by
    have := re.rel
    rw [e] at this
    exact this
  cases b with
  | false =>
    cases hb rfl
    have x1 := x.grow re.le re.sub re.hh re.nw
    refine ⟨I', ?_, re.le, fun a o h i _ => ⟨re.hh a o h, re.nw a o h i⟩, fun a ha => ?_⟩
    · cases r with
      | no => exact absurd rfl nr
      | val d => exact x1.cons_val re.rel
      | own p c =>
        obtain ⟨h1, h2, h3, h4⟩ := re.rel
        subst h1
        refine x1.cons_own (fun ⟨i, c', e⟩ => ?_) h2 h4
        obtain ⟨_, _, g⟩ := x.own i p c' e
        obtain ⟨o, ho⟩ := g.there
        rw [h3] at ho; cases ho
    · cases r with
      | no => exact absurd rfl nr
      | val d => exact .inl (own_cons_val.mp ha)
      | own p c =>
        obtain ⟨i, c', e⟩ := ha
        cases i with
        | zero =>
          simp at e
          obtain ⟨rfl, rfl⟩ := e
          exact .inr re.rel.2.2.1
        | succ i => exact .inl ⟨i, c', by simpa using e⟩
  | true =>
    have hf := hf rfl
    have low : Le I1 (unlend I1 I2 I') := unlend_low (bo.le.trans re.le)
    have nw : ∀ a o, H1 a = some o → I1 a = none → unlend I1 I2 I' a = none := fun a o h i => by
      by_cases hc : I1 a = none ∧ I2 a ≠ none
      · exact unlend_none hc
      · rw [unlend_of hc]
        refine re.nw a o h ?_
        cases e : I2 a with
        | none => rfl
        | some u => exact absurd ⟨i, by rw [e]; simp⟩ hc
    have x1 := x.grow low (unlend_le re.sub) re.hh nw
    refine ⟨_, ?_, low, fun a o h i _ => ⟨re.hh a o h, nw a o h i⟩, fun a ha => ?_⟩
    · cases r with
      | no => exact absurd rfl nr
      | val d => exact x1.cons_val (flat_rep bo re.le d v hf re.rel)
      | own p c =>
        obtain ⟨h1, h2, h3, h4⟩ := re.rel
        subst h1
        refine x1.cons_own (fun ⟨i, c', e⟩ => ?_) ?_ ?_
        · obtain ⟨_, _, g⟩ := x.own i p c' e
          obtain ⟨o, ho⟩ := g.there
          rw [h3] at ho; cases ho
        · by_cases hc : I1 p = none ∧ I2 p ≠ none
          · exact unlend_none hc
          · rw [unlend_of hc]; exact h2
        · cases c with
          | lst ds =>
            obtain ⟨xs, g1, g2⟩ := h4
            exact ⟨xs, g1, flat_reps bo re.le ds xs hf g2⟩
          | dic _ _ => cases hf
          | obj _ _ _ => cases hf
          | ab P => cases hf
    · cases r with
      | no => exact absurd rfl nr
      | val d => exact .inl (own_cons_val.mp ha)
      | own p c =>
        obtain ⟨i, c', e⟩ := ha
        cases i with
        | zero =>
          simp at e
          obtain ⟨rfl, rfl⟩ := e
          exact .inr re.rel.2.2.1
        | succ i => exact .inl ⟨i, c', by simpa using e⟩
end

section
variable {G : Gx} {δ : Env} {E : DE} {Φ : DV → Env → Prop} {pos : Pos}
/-- an expression that is an operation on the values of some expressions -/
theorem de_R {e : Expr} {es : List Expr} {R : List V → Hp → VK → Prop} (hR : ∀ σ H Q, wes G.X es σ H (fun vs H1 => R vs H1 Q) → we G.X e σ H Q)
    (h : dgs G es δ fun as δ1 => ∃ ds b, ArgsD δ1 as ds b ∧ DR G.X.K R ds fun r => (b = true → flatV r = true) ∧ Φ r δ1) : de G e δ Φ := fun σ I H x f Q q =>
  hR σ H Q (h σ I H x f _ fun as δ1 vs I1 H1 ⟨ds, b, hd, hr⟩ y ar g => by
    obtain ⟨I2, bo, rp, hb⟩ := borrow y ar hd
    refine hr I2 H1 vs bo.sub rp Q fun r v I' H' ⟨hf, hΦ⟩ re => ?_
    obtain ⟨I'', z, g'⟩ := unlent y bo hb hf re
    exact q r δ1 v I'' H' hΦ z (g.trans g' y.sub))
def R2l (r : R2) : List V → Hp → VK → Prop := fun vs H Q => ∃ x y, vs = [x, y] ∧ r x y H Q
def R1l (r : V → Hp → VK → Prop) : List V → Hp → VK → Prop := fun vs H Q => ∃ x, vs = [x] ∧ r x H Q
theorem wes2 {X : Cx} {a b : Expr} {σ : St} {H : Hp} {r : R2} {Q : VK} (h : wes X [a, b] σ H fun vs H1 => R2l r vs H1 Q) : we X a σ H fun x H1 => we X b σ H1 fun y H2 => r x y H2 Q :=
  we_mono h fun x H1 h1 => we_mono h1 fun y H2 h2 => by
    obtain ⟨u, v, e, q⟩ := h2
    cases e
    exact q
theorem wes1 {X : Cx} {a : Expr} {σ : St} {H : Hp} {r : V → Hp → VK → Prop} {Q : VK} (h : wes X [a] σ H fun vs H1 => R1l r vs H1 Q) : we X a σ H fun x H1 => r x H1 Q :=
  we_mono h fun x H1 h1 => by
    obtain ⟨u, e, q⟩ := h1
    cases e
    exact q
/-- what operands are asked -/
abbrev Asked (G : Gx) (R : List V → Hp → VK → Prop) (Φ : DV → Env → Prop) : List Arg → Env → Prop := fun as δ1 => ∃ ds b, ArgsD δ1 as ds b ∧ DR G.X.K R ds fun r => (b = true → flatV r = true) ∧ Φ r δ1
theorem de_bin {op : Operator} {a b : Expr} (h : dgs G [a, b] δ (Asked G (R2l (wop G.X (binaryOp op))) Φ)) : de G (.BinOp a op b pos) δ Φ :=
  de_R (fun σ H Q h => (pe_op OpR.of PE.of PE.of).to (wes2 h)) h
theorem de_un {op : UnaryOp} {a : Expr} (h : dgs G [a] δ (Asked G (R1l (wun G.X (unaryOp op))) Φ)) : de G (.UnaryOp op a pos) δ Φ :=
  de_R (fun σ H Q h => (pe_un UnR.of PE.of).to (wes1 h)) h
theorem de_cmp {op : CmpOp} {a b : Expr} (h : dgs G [a, b] δ (Asked G (R2l (wop G.X (compareOp op))) Φ)) (hm : behindInMarks op b = false) : de G (.Compare a [op] [b] pos) δ Φ :=
  de_R (fun σ H Q h => (pe_cmpR OpR.of PE.of PE.of hm).to (wes2 h)) h
/-! ### tests -/
/-- what is True, what False -/
inductive TruD : D → Bool → Prop where
  | non : TruD .non false
  | bl {b : Bool} : TruD (.bl b) b
  | int {i : Int} : TruD (.int i) (i != 0)
  | str {s : Str} (h : s.length ≤ sizeLine) : TruD (.str s) ((s.length : Int) != 0)
  | lst {ds : List D} : TruD (.lst ds) (!ds.isEmpty)
  | tup {ds : List D} : TruD (.tup ds) (!ds.isEmpty)
theorem empty_reps {K : PySem.W.Frag} {I : Hp} {ds : List D} {vs : List V} (h : Reps K I ds vs) : vs.isEmpty = ds.isEmpty := by
  cases ds with
  | nil => cases (show _ = _ from h); rfl
  | cons d ds => obtain ⟨v, r, rfl, _, _⟩ := h; rfl
theorem TruD.to {K : PySem.W.Frag} {I H : Hp} {d : D} {v : V} {b : Bool} (t : TruD d b) (s : Le I H) (r : Rep K I d v) : TruV K v H b := by
  cases t with
  | non => cases (show _ = _ from r); rfl
  | bl => cases (show _ = _ from r); rfl
  | int => cases (show _ = _ from r); rfl
  | str h => cases (show _ = _ from r); exact ⟨h, rfl⟩
  | lst => obtain ⟨a, xs, rfl, h1, h2⟩ := r; exact .inl ⟨xs, SqL.of (s _ _ h1), by rw [empty_reps h2]⟩
  | tup => obtain ⟨a, xs, rfl, h1, h2⟩ := r; exact .inr (.inl ⟨xs, (s.sqU h1).t, by rw [empty_reps h2]⟩)
/-- the truth of a value (of a slot's own list, too) -/
theorem dt_tru {a : Expr} {Φ : Bool → Env → Prop} (h : dgs G [a] δ fun as δ1 => ∃ d k b, ArgsD δ1 as [d] b ∧ TruD d k ∧ Φ k δ1)
    (he : ∀ whole, isTrue a G.X.env whole = (do let v ← whole; standAt a.pos; holding [v] (truthy v))) : dt G a δ Φ := fun σ I H x f Q q =>
  (pt_truth PE.of he).to (we_mono (h σ I H x f (fun vs H1 => ∃ v k, vs = [v] ∧ TruV G.X.K v H1 k ∧ Q k H1) fun as δ1 vs I1 H1 ⟨d, k, b, hd, ht, hΦ⟩ y ar g => by
    obtain ⟨I2, bo, rp, hb⟩ := borrow y ar hd
    obtain ⟨v, r, rfl, h1, h2⟩ := rp
    cases (show _ = _ from h2)
    exact ⟨v, k, rfl, ht.to bo.sub h1, q k δ1 I1 H1 hΦ y g⟩) fun v H1 ⟨u, k, e, t, q'⟩ => by
      cases e
      exact ⟨k, t, q'⟩)
theorem dt_cmp {op : CmpOp} {a b : Expr} {Φ : Bool → Env → Prop} (h : dgs G [a, b] δ (Asked G (R2l (wop G.X (compareOp op))) fun r δ1 => ∃ k, r = .val (.bl k) ∧ Φ k δ1)) (hm : behindInMarks op b = false) :
    dt G (.Compare a [op] [b] pos) δ Φ := fun σ I H x f Q q =>
  (pt_cmpR OpR.of PE.of PE.of hm).to (wes2 (h σ I H x f _ fun as δ1 vs I1 H1 ⟨ds, b, hd, hr⟩ y ar g => by
    obtain ⟨I2, bo, rp, hb⟩ := borrow y ar hd
    refine hr I2 H1 vs bo.sub rp _ fun r v I' H' ⟨hf, k, hk, hΦ⟩ re => ?_
    obtain ⟨I'', z, g'⟩ := unlent y bo hb hf re
    subst hk
    obtain ⟨u, h1, h2⟩ := z.head_val
    cases h1
    cases (show _ = _ from h2)
    exact ⟨k, rfl, q k δ1 I'' H' hΦ z.tail ((g.trans g' y.sub).sub fun a h => h.tail)⟩))
theorem dt_not {a : Expr} {Φ : Bool → Env → Prop} (h : dt G a δ fun k δ1 => Φ (!k) δ1) : dt G (.UnaryOp .Not a pos) δ Φ := fun σ I H x f Q q =>
  (pt_not PT.of).to (h σ I H x f _ fun b δ' I' H' a y g => q (!b) δ' I' H' a y g)
theorem dt_bool {op : BoolOp} {es : List Expr} {Φ : Bool → Env → Prop} (h : dw G (.BoolOp op es pos) δ Φ) : dt G (.BoolOp op es pos) δ Φ := fun σ I H x f Q q =>
  PW.of.pt.to (h σ I H x f Q q)
end
end Zd

namespace Zd
open PySem PySem.Spec PyProof.Rows L2
section
variable {G : Gx} {δ : Env} {E : DE} {Φ : DV → Env → Prop} {pos : Pos}
/-! ### and, or, not, if as an expression -/
theorem dw_and1 {a : Expr} {Φ : Bool → Env → Prop} (h : dt G a δ Φ) : dw G (.BoolOp .And [a] pos) δ Φ := fun σ I H x f Q q => (pw_and1 PT.of).to (h σ I H x f Q q)
theorem dw_or1 {a : Expr} {Φ : Bool → Env → Prop} (h : dt G a δ Φ) : dw G (.BoolOp .Or [a] pos) δ Φ := fun σ I H x f Q q => (pw_or1 PT.of).to (h σ I H x f Q q)
theorem dw_and {a b : Expr} {rest : List Expr} {Φ : Bool → Env → Prop} (h : dt G a δ fun k δ1 => if k = true then dw G (.BoolOp .And (b :: rest) pos) δ1 Φ else Φ false δ1) : dw G (.BoolOp .And (a :: b :: rest) pos) δ Φ := fun σ I H x f Q q =>
  (pw_and PT.of PW.of).to (h σ I H x f _ fun k δ1 I1 H1 a1 y g => by
    cases k with
    | true =>
      rw [if_pos rfl] at a1 ⊢
      exact a1 σ I1 H1 y (f.go g y.sub) Q fun b δ' I' H' a2 y2 g2 => q b δ' I' H' a2 y2 (g.trans g2 y.sub)
    | false =>
      rw [if_neg Bool.false_ne_true] at a1 ⊢
      exact q false δ1 I1 H1 a1 y g)
theorem dw_or {a b : Expr} {rest : List Expr} {Φ : Bool → Env → Prop} (h : dt G a δ fun k δ1 => if k = true then Φ true δ1 else dw G (.BoolOp .Or (b :: rest) pos) δ1 Φ) : dw G (.BoolOp .Or (a :: b :: rest) pos) δ Φ := fun σ I H x f Q q =>
  (pw_or PT.of PW.of).to (h σ I H x f _ fun k δ1 I1 H1 a1 y g => by
    cases k with
    | true =>
      rw [if_pos rfl] at a1 ⊢
      exact q true δ1 I1 H1 a1 y g
    | false =>
      rw [if_neg Bool.false_ne_true] at a1 ⊢
      exact a1 σ I1 H1 y (f.go g y.sub) Q fun b δ' I' H' a2 y2 g2 => q b δ' I' H' a2 y2 (g.trans g2 y.sub))
/-- as values: True and False alone -/
theorem de_one {op} {a : Expr} (h : de G a δ Φ) : de G (.BoolOp op [a] pos) δ Φ := fun σ I H x f Q q => (pe_one PE.of).to (h σ I H x f Q q)
theorem de_and {a b : Expr} {rest : List Expr} (h : de G a δ fun r δ1 => ∃ k, r = .val (.bl k) ∧ if k = true then de G (.BoolOp .And (b :: rest) pos) δ1 Φ else Φ (.val (.bl false)) δ1) : de G (.BoolOp .And (a :: b :: rest) pos) δ Φ := fun σ I H x f Q q =>
  (pe_and PE.of PE.of).to (h σ I H x f _ fun r δ1 v I1 H1 ⟨k, hr, a1⟩ y g => by
    subst hr
    obtain ⟨u, h1, h2⟩ := y.head_val
    cases h1
    cases (show _ = _ from h2)
    have g' := g.sub fun a h => own_cons_val.mpr h
    refine ⟨k, rfl, ?_⟩
    cases k with
    | true =>
      rw [if_pos rfl] at a1 ⊢
      exact a1 σ I1 H1 y.tail (f.go g' y.sub) Q fun r δ' v' I' H' a2 y2 g2 => q r δ' v' I' H' a2 y2 (g'.trans g2 y.sub)
    | false =>
      rw [if_neg Bool.false_ne_true] at a1 ⊢
      exact q _ δ1 _ I1 H1 a1 (y.tail.cons_val rfl) (g'.sub fun a h => own_cons_val.mp h))
theorem de_or {a b : Expr} {rest : List Expr} (h : de G a δ fun r δ1 => ∃ k, r = .val (.bl k) ∧ if k = true then Φ (.val (.bl true)) δ1 else de G (.BoolOp .Or (b :: rest) pos) δ1 Φ) : de G (.BoolOp .Or (a :: b :: rest) pos) δ Φ := fun σ I H x f Q q =>
  (pe_or PE.of PE.of).to (h σ I H x f _ fun r δ1 v I1 H1 ⟨k, hr, a1⟩ y g => by
    subst hr
    obtain ⟨u, h1, h2⟩ := y.head_val
    cases h1
    cases (show _ = _ from h2)
    have g' := g.sub fun a h => own_cons_val.mpr h
    refine ⟨k, rfl, ?_⟩
    cases k with
    | true =>
      rw [if_pos rfl] at a1 ⊢
      exact q _ δ1 _ I1 H1 a1 (y.tail.cons_val rfl) (g'.sub fun a h => own_cons_val.mp h)
    | false =>
      rw [if_neg Bool.false_ne_true] at a1 ⊢
      exact a1 σ I1 H1 y.tail (f.go g' y.sub) Q fun r δ' v' I' H' a2 y2 g2 => q r δ' v' I' H' a2 y2 (g'.trans g2 y.sub))
theorem de_not {a : Expr} (h : dgs G [a] δ fun as δ1 => ∃ d k b, ArgsD δ1 as [d] b ∧ TruD d k ∧ Φ (.val (.bl (!k))) δ1) : de G (.UnaryOp .Not a pos) δ Φ := fun σ I H x f Q q =>
  (pe_notT PE.of).to (we_mono (h σ I H x f (fun vs H1 => ∃ v k, vs = [v] ∧ TruV G.X.K v H1 k ∧ Q (.bl (!k)) H1) fun as δ1 vs I1 H1 ⟨d, k, b, hd, ht, hΦ⟩ y ar g => by
    obtain ⟨I2, bo, rp, hb⟩ := borrow y ar hd
    obtain ⟨v, r, rfl, h1, h2⟩ := rp
    cases (show _ = _ from h2)
    exact ⟨v, k, rfl, ht.to bo.sub h1, q _ δ1 _ I1 H1 hΦ (y.cons_val rfl) (g.sub fun a h => own_cons_val.mp h)⟩) fun v H1 ⟨u, k, e, t, q'⟩ => by
      cases e
      exact ⟨k, t, q'⟩)
theorem de_ifexp {c a b : Expr} (h : dt G c δ fun k δ1 => if k = true then de G a δ1 Φ else de G b δ1 Φ) : de G (.IfExp c a b pos) δ Φ := fun σ I H x f Q q =>
  (pe_ifExp PT.of PE.of PE.of).to (h σ I H x f _ fun k δ1 I1 H1 a1 y g => by
    cases k with
    | true =>
      rw [if_pos rfl] at a1 ⊢
      exact a1 σ I1 H1 y (f.go g y.sub) Q fun r δ' v' I' H' a2 y2 g2 => q r δ' v' I' H' a2 y2 (g.trans g2 y.sub)
    | false =>
      rw [if_neg Bool.false_ne_true] at a1 ⊢
      exact a1 σ I1 H1 y (f.go g y.sub) Q fun r δ' v' I' H' a2 y2 g2 => q r δ' v' I' H' a2 y2 (g.trans g2 y.sub))
/-- a < b < c -/
theorem de_chain {op op' : CmpOp} {a b c : Expr} (h : dgs G [a, b] δ fun as δ1 => ∃ x y, as = [.v x, .v y] ∧ DR G.X.K (R2l (wop G.X (compareOp op))) [x, y] fun r => ∃ k, r = .val (.bl k) ∧
      if k = true then dgs G [c] δ1 fun as δ2 => ∃ z, as = [.v z] ∧ DR G.X.K (R2l (wop G.X (compareOp op'))) [y, z] fun r => Φ r δ2 else Φ (.val (.bl false)) δ1)
    (hm : lastMarks [op, op'] [b, c] = false := by with_unfolding_all rfl) : de G (.Compare a [op, op'] [b, c] pos) δ Φ := fun σ I H x f Q q =>
  (pe_chain OpR.of OpR.of PE.of PE.of PE.of hm).to (by
    refine we_mono (h σ I H x f (fun vs H1 => ∃ v w, vs = [v, w] ∧ wop G.X (compareOp op) v w H1 fun z H2 => ∃ k, z = .bl k ∧ if k = true then we G.X c σ H2 fun u H3 => wop G.X (compareOp op') w u H3 Q else Q (.bl false) H2) ?_) ?_
    · intro as δ1 vs I1 H1 ⟨d, e, hd, hr⟩ y ar g
      subst hd
      obtain ⟨v, r, rfl, h1, ar⟩ := ar
      obtain ⟨w, r, rfl, h2, ar⟩ := ar
      cases (show _ = _ from ar)
      refine ⟨v, w, rfl, ?_⟩
      have h1 : Rep G.X.K I1 d v := h1
      have h2 : Rep G.X.K I1 e w := h2
      obtain ⟨_, _, e1, e2⟩ := hr I1 H1 [v, w] y.sub (Reps.cons h1 (Reps.cons h2 Reps.nil)) (fun z H2 => ∃ k, z = .bl k ∧ if k = true then we G.X c σ H2 fun u H3 => wop G.X (compareOp op') w u H3 Q else Q (.bl false) H2) (by
        intro r v' I2 H2 ⟨k, hk, a1⟩ re
        subst hk
        cases (show _ = _ from re.rel)
        have y2 := y.grow re.le re.sub re.hh re.nw
        have g2 : Goes (Own δ1) (Own δ1) I1 H1 I2 H2 := Goes.grow re.le re.hh re.nw
        refine ⟨k, rfl, ?_⟩
        cases k with
        | false =>
          rw [if_neg Bool.false_ne_true] at a1 ⊢
          exact q _ δ1 _ I2 H2 a1 (y2.cons_val rfl) ((g.trans g2 y.sub).sub fun a h => own_cons_val.mp h)
        | true =>
          rw [if_pos rfl] at a1 ⊢
          refine we_mono (a1 σ I2 H2 y2 (f.go (g.trans g2 y.sub) y2.sub) (fun vs H3 => ∃ u, vs = [u] ∧ wop G.X (compareOp op') w u H3 Q) ?_) ?_
          · intro as δ3 vs I3 H3 ⟨z, hz, hr3⟩ y3 ar3 g3
            subst hz
            obtain ⟨u, r, rfl, h3, ar3⟩ := ar3
            cases (show _ = _ from ar3)
            have h3 : Rep G.X.K I3 z u := h3
            refine ⟨u, rfl, ?_⟩
            obtain ⟨_, _, e1, e2⟩ := hr3 I3 H3 [w, u] y3.sub (Reps.cons (Rep.mono (re.le.trans g3.le) _ _ h2) (Reps.cons h3 Reps.nil)) Q (fun r v4 I4 H4 a4 re4 => by
              obtain ⟨I5, z5, g5⟩ := unlent (b := false) y3 (Bor.refl y3.sub) (fun _ => rfl) (fun e => by cases e) re4
              exact q r δ3 v4 I5 H4 a4 z5 ((g.trans g2 y.sub).trans (g3.trans g5 y3.sub) y2.sub))
            cases e1
            exact e2
          · intro v' H3 ⟨u, e, h⟩
            cases e
            exact h)
      cases e1
      exact e2
    · intro v H1 h1
      refine we_mono h1 fun w H2 ⟨v', w', e, h⟩ => ?_
      cases e
      exact h)
/-! ### displays, items -/
theorem wes_pa {X : Cx} : ∀ {es : List Expr}, PA X es (wes X es) → True := fun _ => trivial
def Rtup : List V → Hp → VK → Prop := fun vs H Q => vs.length ≤ sizeLine ∧ ∀ p, H p = none → Q (.ref p) (upd H p (.tup vs))
def Rlst : List V → Hp → VK → Prop := fun vs H Q => vs.length ≤ sizeLine ∧ ∀ p, H p = none → Q (.ref p) (upd H p (.lst vs))
theorem dr_tup {K : PySem.W.Frag} {ds : List D} {Ψ : DV → Prop} (hl : ds.length ≤ sizeLine) (h : Ψ (.val (.tup ds))) : DR K Rtup ds Ψ := fun I H vs s rp Q q =>
  ⟨by rw [rp.length]; exact hl, fun p hp => q _ _ _ _ h (Res.fast s hp ⟨p, vs, rfl, .inl upd_same, Reps.mono (Le.new (by
    cases e : I p with
    | none => rfl
    | some u => rw [s _ _ e] at hp; cases hp)) _ _ rp⟩)⟩
theorem dr_lst {K : PySem.W.Frag} {ds : List D} {Ψ : DV → Prop} (hl : ds.length ≤ sizeLine) (h : ∀ p, Ψ (.own p (.lst ds))) : DR K Rlst ds Ψ := fun I H vs s rp Q q =>
  ⟨by rw [rp.length]; exact hl, fun p hp => q _ _ _ _ (h p) (Res.own s hp ⟨vs, upd_same, rp⟩)⟩
theorem de_tuple {es : List Expr} {k} (hp : PA G.X es (wes G.X es)) (h : dgs G es δ (Asked G Rtup Φ)) : de G (.Tuple es k pos) δ Φ := de_R (fun σ H Q h => (pe_tup hp).to h) h
theorem de_list {es : List Expr} (hp : PA G.X es (wes G.X es)) (h : dgs G es δ (Asked G Rlst Φ)) : de G (.List es pos) δ Φ := de_R (fun σ H Q h => (pe_lst hp).to h) h
/-- o[i]: by an index rule -/
def wix (X : Cx) : R2 := fun x y H Q => ∀ (value slice : Expr) pins s σ v u, Inv X pins σ H s → RelV x v → RelV y u → subscripted slice false v u = operate [v, u] (getItem v u) → wpAny (model X.prog X.w) X.A (subscriptTail value slice v u) (EP X pins σ Q) X.xe s
theorem _root_.L2.IxR.of {X : Cx} : IxR X (wix X) := fun value slice pins s σ H x y v u Q I rx ry h e => h value slice pins s σ v u I rx ry e
theorem _root_.L2.IxR.to {X : Cx} {r : R2} {x y : V} {H : Hp} {Q : VK} (p : IxR X r) (h : r x y H Q) : wix X x y H Q := fun value slice pins s σ v u I rx ry e => p value slice pins s σ H x y v u Q I rx ry h e
theorem de_ix {a b : Expr} (h : dgs G [a, b] δ (Asked G (R2l (wix G.X)) Φ)) (hs : PlainIx b := by exact fun _ _ => rfl) : de G (.Subscript a b pos) δ Φ :=
  de_R (fun σ H Q h => (pe_ix IxR.of PE.of PE.of hs).to (wes2 h)) h
end

/-! ### what operations give on data -/
theorem reps1 {K : PySem.W.Frag} {I : Hp} {d : D} {vs : List V} (h : Reps K I [d] vs) : ∃ v, vs = [v] ∧ Rep K I d v := by
  obtain ⟨v, r, rfl, h1, h2⟩ := h
  cases (show _ = _ from h2)
  exact ⟨v, rfl, h1⟩
theorem reps2 {K : PySem.W.Frag} {I : Hp} {d e : D} {vs : List V} (h : Reps K I [d, e] vs) : ∃ v w, vs = [v, w] ∧ Rep K I d v ∧ Rep K I e w := by
  obtain ⟨v, r, rfl, h1, h2⟩ := h
  obtain ⟨w, rfl, h3⟩ := reps1 h2
  exact ⟨v, w, rfl, h1, h3⟩
section
variable {X : Cx} {Ψ : DV → Prop}
theorem dr_R2 {r : R2} {x y : D} (h : ∀ I H v w, Le I H → Rep X.K I x v → Rep X.K I y w → ∀ Q : VK, (∀ r v I' H', Ψ r → Res X.K I H I' H' r v → Q v H') → r v w H Q) : DR X.K (R2l r) [x, y] Ψ := fun I H vs s rp Q q => by
  obtain ⟨v, w, rfl, h1, h2⟩ := reps2 rp
  exact ⟨v, w, rfl, h I H v w s h1 h2 Q q⟩
theorem dr_R1 {r : V → Hp → VK → Prop} {x : D} (h : ∀ I H v, Le I H → Rep X.K I x v → ∀ Q : VK, (∀ r v I' H', Ψ r → Res X.K I H I' H' r v → Q v H') → r v H Q) : DR X.K (R1l r) [x] Ψ := fun I H vs s rp Q q => by
  obtain ⟨v, rfl, h1⟩ := reps1 rp
  exact ⟨v, rfl, h I H v s h1 Q q⟩
theorem dr_II {f : Value → Value → Sem Value} {C : Int → Int → Prop} {g : Int → Int → Int} {i j : Int} (ho : OpR X f (rI C fun i j => .int (g i j))) (hc : C i j) (h : Ψ (.val (.int (g i j)))) : DR X.K (R2l (wop X f)) [.int i, .int j] Ψ :=
  dr_R2 fun I H v w s h1 h2 Q q => by
    cases (show _ = _ from h1)
    cases (show _ = _ from h2)
    exact ho.to ⟨i, j, rfl, rfl, hc, q _ _ I H h (Res.val s rfl)⟩
theorem dr_II0 {f : Value → Value → Sem Value} {g : Int → Int → Int} {i j : Int} (ho : OpR X f (rI0 fun i j => .int (g i j))) (h : Ψ (.val (.int (g i j)))) : DR X.K (R2l (wop X f)) [.int i, .int j] Ψ :=
  dr_R2 fun I H v w s h1 h2 Q q => by
    cases (show _ = _ from h1)
    cases (show _ = _ from h2)
    exact ho.to ⟨i, j, rfl, rfl, q _ _ I H h (Res.val s rfl)⟩
theorem dr_IB0 {f : Value → Value → Sem Value} {g : Int → Int → Bool} {i j : Int} (ho : OpR X f (rI0 fun i j => .bl (g i j))) (h : Ψ (.val (.bl (g i j)))) : DR X.K (R2l (wop X f)) [.int i, .int j] Ψ :=
  dr_R2 fun I H v w s h1 h2 Q q => by
    cases (show _ = _ from h1)
    cases (show _ = _ from h2)
    exact ho.to ⟨i, j, rfl, rfl, q _ _ I H h (Res.val s rfl)⟩
variable {i j : Int}
theorem dr_add (h : Ψ (.val (.int (i + j)))) : DR X.K (R2l (wop X (binaryOp .Add))) [.int i, .int j] Ψ := dr_II0 op_add h
theorem dr_sub (h : Ψ (.val (.int (i - j)))) : DR X.K (R2l (wop X (binaryOp .Sub))) [.int i, .int j] Ψ := dr_II0 op_sub h
theorem dr_mul (hc : CMulX i j) (h : Ψ (.val (.int (i * j)))) : DR X.K (R2l (wop X (binaryOp .Mult))) [.int i, .int j] Ψ := dr_II op_mulX hc h
theorem dr_mul64 (hc : CMul i j) (h : Ψ (.val (.int (i * j)))) : DR X.K (R2l (wop X (binaryOp .Mult))) [.int i, .int j] Ψ := dr_II op_mul hc h
theorem dr_fdiv (hc : 0 < j ∧ j < 1073741824) (h : Ψ (.val (.int (i / j)))) : DR X.K (R2l (wop X (binaryOp .FloorDiv))) [.int i, .int j] Ψ := dr_II op_fdiv hc h
theorem dr_fdivW (hc : CDivW i j) (h : Ψ (.val (.int (i / j)))) : DR X.K (R2l (wop X (binaryOp .FloorDiv))) [.int i, .int j] Ψ := dr_II op_fdivW hc h
theorem dr_mod (hc : 0 < j) (h : Ψ (.val (.int (i % j)))) : DR X.K (R2l (wop X (binaryOp .Mod))) [.int i, .int j] Ψ := dr_II (C := fun _ j => 0 < j) op_mod hc h
theorem dr_pow (hc : CPow i j) (h : Ψ (.val (.int (i ^ j.toNat)))) : DR X.K (R2l (wop X (binaryOp .Pow))) [.int i, .int j] Ψ := dr_II op_pow hc h
theorem dr_shl (hc : CPow i j) (h : Ψ (.val (.int (i * 2 ^ j.toNat)))) : DR X.K (R2l (wop X (binaryOp .LShift))) [.int i, .int j] Ψ := dr_II op_shl hc h
theorem dr_shr (hc : 0 ≤ j) (h : Ψ (.val (.int (i / 2 ^ j.toNat)))) : DR X.K (R2l (wop X (binaryOp .RShift))) [.int i, .int j] Ψ := dr_II (C := fun _ j => 0 ≤ j) op_shr hc h
theorem dr_bitand (h : Ψ (.val (.int (Builtin.bitAnd i j)))) : DR X.K (R2l (wop X (binaryOp .BitAnd))) [.int i, .int j] Ψ := dr_II0 op_and h
theorem dr_lt (h : Ψ (.val (.bl (decide (i < j))))) : DR X.K (R2l (wop X (compareOp .Lt))) [.int i, .int j] Ψ := dr_IB0 op_lt h
theorem dr_le (h : Ψ (.val (.bl (decide (i ≤ j))))) : DR X.K (R2l (wop X (compareOp .LtE))) [.int i, .int j] Ψ := dr_IB0 op_le h
theorem dr_gt (h : Ψ (.val (.bl (decide (j < i))))) : DR X.K (R2l (wop X (compareOp .Gt))) [.int i, .int j] Ψ := dr_IB0 op_gt h
theorem dr_ge (h : Ψ (.val (.bl (decide (j ≤ i))))) : DR X.K (R2l (wop X (compareOp .GtE))) [.int i, .int j] Ψ := dr_IB0 op_ge h
/-- the values that stand for themselves -/
def vOf : D → Option V
  | .non => some .non
  | .bl b => some (.bl b)
  | .int i => some (.int i)
  | .str s => some (.str s)
  | _ => none
theorem vOf_rep {K : PySem.W.Frag} {I : Hp} {d : D} {u v : V} (h : vOf d = some u) (r : Rep K I d v) : v = u := by
  cases d <;> simp [vOf] at h <;> cases h <;> exact r
theorem dr_eqS {x y : D} {u w : V} (h1 : vOf x = some u) (h2 : vOf y = some w) (hs : scal u w = true) (h : Ψ (.val (.bl (decide (u = w))))) : DR X.K (R2l (wop X (compareOp .Eq))) [x, y] Ψ := dr_R2 fun I H v w' s r1 r2 Q q => by
  rw [vOf_rep h1 r1, vOf_rep h2 r2]
  exact op_eq.to ⟨hs, q _ _ I H h (Res.val s rfl)⟩
theorem dr_neS {x y : D} {u w : V} (h1 : vOf x = some u) (h2 : vOf y = some w) (hs : scal u w = true) (h : Ψ (.val (.bl (!decide (u = w))))) : DR X.K (R2l (wop X (compareOp .NotEq))) [x, y] Ψ := dr_R2 fun I H v w' s r1 r2 Q q => by
  rw [vOf_rep h1 r1, vOf_rep h2 r2]
  exact op_ne.to ⟨hs, q _ _ I H h (Res.val s rfl)⟩
theorem dr_eq (h : Ψ (.val (.bl (decide (i = j))))) : DR X.K (R2l (wop X (compareOp .Eq))) [.int i, .int j] Ψ := dr_eqS rfl rfl rfl (by
  have e : decide (V.int i = V.int j) = decide (i = j) := by
    by_cases h : i = j
    · subst h; simp
    · rw [decide_eq_false h, decide_eq_false (fun e => h (V.int.inj e))]
  rw [e]; exact h)
theorem dr_ne (h : Ψ (.val (.bl (!decide (i = j))))) : DR X.K (R2l (wop X (compareOp .NotEq))) [.int i, .int j] Ψ := dr_neS rfl rfl rfl (by
  have e : decide (V.int i = V.int j) = decide (i = j) := by
    by_cases h : i = j
    · subst h; simp
    · rw [decide_eq_false h, decide_eq_false (fun e => h (V.int.inj e))]
  rw [e]; exact h)
theorem dr_eqstr {s t : Str} (h : Ψ (.val (.bl (decide (s = t))))) : DR X.K (R2l (wop X (compareOp .Eq))) [.str s, .str t] Ψ := dr_eqS rfl rfl rfl (by
  have e : decide (V.str s = V.str t) = decide (s = t) := by
    by_cases h : s = t
    · subst h; simp
    · rw [decide_eq_false h, decide_eq_false (fun e => h (V.str.inj e))]
  rw [e]; exact h)
theorem dr_nestr {s t : Str} (h : Ψ (.val (.bl (!decide (s = t))))) : DR X.K (R2l (wop X (compareOp .NotEq))) [.str s, .str t] Ψ := dr_neS rfl rfl rfl (by
  have e : decide (V.str s = V.str t) = decide (s = t) := by
    by_cases h : s = t
    · subst h; simp
    · rw [decide_eq_false h, decide_eq_false (fun e => h (V.str.inj e))]
  rw [e]; exact h)
/-- is None, is not None -/
def isNon : D → Bool
  | .non => true
  | _ => false
/-- not a raw value -/
def clear : D → Bool
  | .raw _ => false
  | _ => true
theorem isNon_rep {K : PySem.W.Frag} {I : Hp} {d : D} {v : V} (hc : clear d = true) (r : Rep K I d v) : decide (v = .non) = isNon d := by
  cases d with
  | non => cases (show _ = _ from r); rfl
  | bl => cases (show _ = _ from r); rfl
  | int => cases (show _ = _ from r); rfl
  | str => cases (show _ = _ from r); rfl
  | raw => cases hc
  | lst => obtain ⟨a, xs, rfl, _⟩ := r; rfl
  | klst => obtain ⟨a, xs, rfl, _⟩ := r; rfl
  | tup => obtain ⟨a, xs, rfl, _⟩ := r; rfl
  | dic => obtain ⟨a, xs, rfl, _⟩ := r; rfl
  | obj => obtain ⟨a, dx, xs, rfl, _⟩ := r; rfl
theorem dr_isN {x : D} (hc : clear x = true) (h : Ψ (.val (.bl (isNon x)))) : DR X.K (R2l (wop X (compareOp .Is))) [x, .non] Ψ := dr_R2 fun I H v w s r1 r2 Q q => by
  cases (show _ = _ from r2)
  refine op_isN.to ⟨rfl, ?_⟩
  rw [isNon_rep hc r1]
  exact q _ _ I H h (Res.val s rfl)
theorem dr_notN {x : D} (hc : clear x = true) (h : Ψ (.val (.bl (!isNon x)))) : DR X.K (R2l (wop X (compareOp .IsNot))) [x, .non] Ψ := dr_R2 fun I H v w s r1 r2 Q q => by
  cases (show _ = _ from r2)
  refine op_notN.to ⟨rfl, ?_⟩
  rw [isNon_rep hc r1]
  exact q _ _ I H h (Res.val s rfl)
/-- texts -/
theorem dr_addstr {s t : Str} (hl : s.length + t.length ≤ sizeLine) (h : Ψ (.val (.str (s ++ t)))) : DR X.K (R2l (wop X (binaryOp .Add))) [.str s, .str t] Ψ := dr_R2 fun I H v w sb r1 r2 Q q => by
  cases (show _ = _ from r1)
  cases (show _ = _ from r2)
  exact op_add_str.to ⟨s, t, rfl, rfl, hl, q _ _ I H h (Res.val sb rfl)⟩
/-- lists, tuples joined -/
theorem dr_cat {as bs : List D} (hl : as.length + bs.length ≤ sizeLine) (h : ∀ p, Ψ (.own p (.lst (as ++ bs)))) : DR X.K (R2l (wop X (binaryOp .Add))) [.lst as, .lst bs] Ψ := dr_R2 fun I H v w s r1 r2 Q q => by
  obtain ⟨a, xs, rfl, h1, h2⟩ := r1
  obtain ⟨b, ys, rfl, h3, h4⟩ := r2
  exact op_cat.to ⟨a, b, xs, ys, rfl, rfl, s _ _ h1, s _ _ h3, by rw [h2.length, h4.length]; exact hl, fun p hp => q _ _ _ _ (h p) (Res.own s hp ⟨_, upd_same, h2.append h4⟩)⟩
theorem Reps.flat {K : PySem.W.Frag} {I : Hp} {ds : List D} {vs : List V} (h : Reps K I ds vs) : ∀ n : Nat, Reps K I (List.replicate n ds).flatten (List.replicate n vs).flatten
  | 0 => rfl
  | n + 1 => by
    rw [List.replicate_succ, List.replicate_succ, List.flatten_cons, List.flatten_cons]
    exact h.append (Reps.flat h n)
theorem dr_rep {as : List D} {k : Int} (h1 : -(2 ^ 63) ≤ k) (h2 : k < 2 ^ 63) (hl : as.length * k.toNat ≤ sizeLine) (h : ∀ p, Ψ (.own p (.lst (List.replicate k.toNat as).flatten))) : DR X.K (R2l (wop X (binaryOp .Mult))) [.lst as, .int k] Ψ := dr_R2 fun I H v w s r1 r2 Q q => by
  obtain ⟨a, xs, rfl, g1, g2⟩ := r1
  cases (show _ = _ from r2)
  exact op_rep.to ⟨a, k, xs, rfl, rfl, s _ _ g1, h1, h2, by rw [g2.length]; exact hl, fun p hp => q _ _ _ _ (h p) (Res.own s hp ⟨_, upd_same, g2.flat _⟩)⟩
theorem le_none {I H : Hp} {p : Addr} (s : Le I H) (hp : H p = none) : I p = none := by
  cases e : I p with
  | none => rfl
  | some u => rw [s _ _ e] at hp; cases hp
theorem dr_catT {as bs : List D} (hl : as.length + bs.length ≤ sizeLine) (h : Ψ (.val (.tup (as ++ bs)))) : DR X.K (R2l (wop X (binaryOp .Add))) [.tup as, .tup bs] Ψ := dr_R2 fun I H v w s r1 r2 Q q => by
  obtain ⟨a, xs, rfl, h1, h2⟩ := r1
  obtain ⟨b, ys, rfl, h3, h4⟩ := r2
  refine op_catA.to ⟨a, b, xs, ys, rfl, rfl, (s.sqU h1).t, (s.sqU h3).t, by rw [h2.length, h4.length]; exact hl, fun e => ?_, fun _ e => ?_, fun _ _ p hp => ?_⟩
  · refine q _ _ I H h (Res.val s ⟨b, ys, rfl, h3, ?_⟩)
    have := h2.append h4
    rw [e] at this
    exact this
  · refine q _ _ I H h (Res.val s ⟨a, xs, rfl, h1, ?_⟩)
    have := h2.append h4
    rw [e, List.append_nil] at this
    exact this
  · exact q _ _ _ _ h (Res.fast s hp ⟨p, _, rfl, .inl upd_same, Reps.mono (Le.new (le_none s hp)) _ _ (h2.append h4)⟩)
/-! items -/
theorem dr_ixL {as : List D} {i : Int} {d : D} (hi : atI as i = some d) (h : Ψ (.val d)) : DR X.K (R2l (wix X)) [.lst as, .int i] Ψ := dr_R2 fun I H v w s r1 r2 Q q => by
  obtain ⟨a, xs, rfl, g1, g2⟩ := r1
  cases (show _ = _ from r2)
  unfold atI at hi
  cases e : ixN as.length i with
  | none => rw [e] at hi; cases hi
  | some k =>
    rw [e] at hi
    obtain ⟨v, e1, e2⟩ := g2.get (i := k) hi
    refine ix_list.to ⟨a, xs, i, v, rfl, rfl, SqL.of (s _ _ g1), ?_, q _ _ I H h (Res.val s e2)⟩
    unfold atI
    rw [g2.length, e]
    exact e1
theorem dr_ixT {as : List D} {i : Int} {d : D} (hi : atI as i = some d) (h : Ψ (.val d)) : DR X.K (R2l (wix X)) [.tup as, .int i] Ψ := dr_R2 fun I H v w s r1 r2 Q q => by
  obtain ⟨a, xs, rfl, g1, g2⟩ := r1
  cases (show _ = _ from r2)
  unfold atI at hi
  cases e : ixN as.length i with
  | none => rw [e] at hi; cases hi
  | some k =>
    rw [e] at hi
    obtain ⟨v, e1, e2⟩ := g2.get (i := k) hi
    refine ix_tup.to ⟨a, xs, i, v, rfl, rfl, (s.sqU g1).t, ?_, q _ _ I H h (Res.val s e2)⟩
    unfold atI
    rw [g2.length, e]
    exact e1
theorem dr_ixS {z : Str} {i : Int} {c : Nat} (hl : z.length ≤ sizeLine) (hi : atI z.cps.toList i = some c) (h : Ψ (.val (.str ⟨#[c]⟩))) : DR X.K (R2l (wix X)) [.str z, .int i] Ψ := dr_R2 fun I H v w s r1 r2 Q q => by
  cases (show _ = _ from r1)
  cases (show _ = _ from r2)
  exact ix_str.to ⟨z, i, c, rfl, rfl, hl, hi, q _ _ I H h (Res.val s rfl)⟩
theorem dr_neg (h : Ψ (.val (.int (-i)))) : DR X.K (R1l (wun X (unaryOp .USub))) [.int i] Ψ := dr_R1 fun I H v s r1 Q q => by
  cases (show _ = _ from r1)
  exact un_neg.to ⟨i, rfl, q _ _ I H h (Res.val s rfl)⟩
/-- what is in a list or tuple of flat things -/
theorem flats {K : PySem.W.Frag} {I : Hp} : ∀ {ds : List D} {us vs : List V}, ds.mapM vOf = some us → Reps K I ds vs → vs = us
  | [], us, vs, h, r => by
    simp at h; subst h
    exact r
  | d :: ds, us, vs, h, r => by
    obtain ⟨v, r', rfl, h1, h2⟩ := r
    rw [List.mapM_cons] at h
    cases e1 : vOf d with
    | none => rw [e1] at h; simp at h
    | some u =>
      rw [e1] at h
      cases e2 : ds.mapM vOf with
      | none => rw [e2] at h; simp at h
      | some us' =>
        rw [e2] at h
        simp at h; subst h
        rw [vOf_rep e1 h1, flats e2 h2]
theorem flats_flat : ∀ {ds : List D} {us : List V}, ds.mapM vOf = some us → us.all L2.flatV = true
  | [], us, h => by
    simp at h; subst h; rfl
  | d :: ds, us, h => by
    rw [List.mapM_cons] at h
    cases e1 : vOf d with
    | none => rw [e1] at h; simp at h
    | some u =>
      rw [e1] at h
      cases e2 : ds.mapM vOf with
      | none => rw [e2] at h; simp at h
      | some us' =>
        rw [e2] at h
        simp at h; subst h
        rw [List.all_cons, flats_flat e2]
        cases d <;> simp [vOf] at e1 <;> subst e1 <;> rfl
theorem vOf_flat {d : D} {u : V} (h : vOf d = some u) : L2.flatV u = true := by
  cases d <;> simp [vOf] at h <;> subst h <;> rfl
theorem dr_in {x : D} {as : List D} {u : V} {us : List V} (h1 : vOf x = some u) (h2 : as.mapM vOf = some us) {y : D} (hy : y = .lst as ∨ y = .tup as) (h : Ψ (.val (.bl (inV u us)))) : DR X.K (R2l (wop X (compareOp .In))) [x, y] Ψ := dr_R2 fun I H v w s r1 r2 Q q => by
  rw [vOf_rep h1 r1]
  rcases hy with rfl | rfl
  · obtain ⟨a, xs, rfl, g1, g2⟩ := r2
    rw [flats h2 g2] at g1
    exact op_in_seq.to ⟨a, us, rfl, .inl (SqL.of (s _ _ g1)), vOf_flat h1, flats_flat h2, q _ _ I H h (Res.val s rfl)⟩
  · obtain ⟨a, xs, rfl, g1, g2⟩ := r2
    rw [flats h2 g2] at g1
    exact op_in_seq.to ⟨a, us, rfl, .inr ((s.sqU g1).t), vOf_flat h1, flats_flat h2, q _ _ I H h (Res.val s rfl)⟩
theorem dr_notin {x : D} {as : List D} {u : V} {us : List V} (h1 : vOf x = some u) (h2 : as.mapM vOf = some us) {y : D} (hy : y = .lst as ∨ y = .tup as) (h : Ψ (.val (.bl (!inV u us)))) : DR X.K (R2l (wop X (compareOp .NotIn))) [x, y] Ψ := dr_R2 fun I H v w s r1 r2 Q q => by
  rw [vOf_rep h1 r1]
  rcases hy with rfl | rfl
  · obtain ⟨a, xs, rfl, g1, g2⟩ := r2
    rw [flats h2 g2] at g1
    exact op_notIn_seq.to ⟨a, us, rfl, .inl (SqL.of (s _ _ g1)), vOf_flat h1, flats_flat h2, q _ _ I H h (Res.val s rfl)⟩
  · obtain ⟨a, xs, rfl, g1, g2⟩ := r2
    rw [flats h2 g2] at g1
    exact op_notIn_seq.to ⟨a, us, rfl, .inr ((s.sqU g1).t), vOf_flat h1, flats_flat h2, q _ _ I H h (Res.val s rfl)⟩
/-! == of data at any depth -/
mutual
def toPy : D → Option PyData
  | .non => some .none
  | .bl b => some (.bool b)
  | .int i => some (.int i)
  | .str s => some (.str s)
  | .lst ds => (toPys ds).map .list
  | .tup ds => (toPys ds).map .tuple
  | _ => none
def toPys : List D → Option (List PyData)
  | [] => some []
  | d :: ds => (toPy d).bind fun p => (toPys ds).map fun ps => p :: ps
end
mutual
theorem toPy_dp {K : PySem.W.Frag} {I H : Hp} (s : Le I H) : ∀ (d : D) (v : V) (p : PyData), toPy d = some p → Rep K I d v → Dp K H v p
  | .non, _, _, h, r => by simp [toPy] at h; subst h; cases (show _ = _ from r); exact .non
  | .bl b, _, _, h, r => by simp [toPy] at h; subst h; cases (show _ = _ from r); exact .bl b
  | .int i, _, _, h, r => by simp [toPy] at h; subst h; cases (show _ = _ from r); exact .int i
  | .str i, _, _, h, r => by simp [toPy] at h; subst h; cases (show _ = _ from r); exact .str i
  | .raw _, _, _, h, r => by simp [toPy] at h
  | .klst _, _, _, h, r => by simp [toPy] at h
  | .dic _ _, _, _, h, r => by simp [toPy] at h
  | .obj _ _ _, _, _, h, r => by simp [toPy] at h
  | .lst ds, _, _, h, r => by
    simp [toPy] at h
    obtain ⟨ps, h1, rfl⟩ := h
    obtain ⟨a, xs, rfl, g1, g2⟩ := r
    exact .lst (SqL.of (s _ _ g1)) (toPys_dp s ds xs ps h1 g2)
  | .tup ds, _, _, h, r => by
    simp [toPy] at h
    obtain ⟨ps, h1, rfl⟩ := h
    obtain ⟨a, xs, rfl, g1, g2⟩ := r
    exact .tup ((s.sqU g1).t) (toPys_dp s ds xs ps h1 g2)
theorem toPys_dp {K : PySem.W.Frag} {I H : Hp} (s : Le I H) : ∀ (ds : List D) (vs : List V) (ps : List PyData), toPys ds = some ps → Reps K I ds vs → DpAll K H vs ps
  | [], _, _, h, r => by simp [toPys] at h; subst h; cases (show _ = _ from r); exact .nil
  | d :: ds, _, _, h, r => by
    obtain ⟨v, vs, rfl, g1, g2⟩ := r
    simp only [toPys] at h
    cases e1 : toPy d with
    | none => rw [e1] at h; simp at h
    | some p =>
      rw [e1] at h
      cases e2 : toPys ds with
      | none => rw [e2] at h; simp at h
      | some ps' =>
        rw [e2] at h
        simp at h; subst h
        exact .cons (toPy_dp s d v p e1 g1) (toPys_dp s ds vs ps' e2 g2)
end
theorem dr_eqD {x y : D} {p q : PyData} (hu : X.A.units + 64 < cLine) (h1 : toPy x = some p) (h2 : toPy y = some q) (s1 : SeqAt.shaped p = true) (s2 : SeqAt.shaped q = true) (h : Ψ (.val (.bl (PyData.eqv p q)))) : DR X.K (R2l (wop X (compareOp .Eq))) [x, y] Ψ :=
  dr_R2 fun I H v w s r1 r2 Q k => (op_eqD hu).to ⟨p, q, toPy_dp s _ _ _ h1 r1, toPy_dp s _ _ _ h2 r2, s1, s2, k _ _ I H h (Res.val s rfl)⟩
theorem dr_neD {x y : D} {p q : PyData} (hu : X.A.units + 64 < cLine) (h1 : toPy x = some p) (h2 : toPy y = some q) (s1 : SeqAt.shaped p = true) (s2 : SeqAt.shaped q = true) (h : Ψ (.val (.bl (!PyData.eqv p q)))) : DR X.K (R2l (wop X (compareOp .NotEq))) [x, y] Ψ :=
  dr_R2 fun I H v w s r1 r2 Q k => (op_neD hu).to ⟨p, q, toPy_dp s _ _ _ h1 r1, toPy_dp s _ _ _ h2 r2, s1, s2, k _ _ I H h (Res.val s rfl)⟩
end
end Zd

namespace Zd
open PySem PySem.Spec L2
/-! ### what a loop goes over -/
def Yields (K : PySem.W.Frag) (I0 : Hp) (J : It) (n : Nat) (it : Nat → D → Prop) : Prop := ∀ i I H, Le I0 I → Le I H →
  (i < n → J.go i H ∧ ∀ x H', J.yld i H x H' → ∃ I' d, it i d ∧ Res K I H I' H' (.val d) x) ∧ (i = n → J.stop i H)
def di (G : Gx) (tg iter : Expr) (δ : Env) (Φ : Nat → (Nat → D → Prop) → Env → Prop) : Prop :=
  ∀ σ I H, EnvR G.X.K I H σ δ → XFut G δ I H → ∀ R : It → Hp → Prop, (∀ n it δ' J I' H', Φ n it δ' → EnvR G.X.K I' H' σ δ' → Goes (Own δ) (Own δ') I H I' H' → Yields G.X.K I' J n it → R J H') → wi G.X tg iter σ H R
/-- targets: the slots that they turn -/
def dgt (G : Gx) (tg : Expr) (d : D) (δ : Env) (js : List Nat) (Φ : Env → Prop) : Prop :=
  ∀ σ I H v, EnvR G.X.K I H σ δ → Rep G.X.K I d v → ∀ Q : St → Hp → Prop, (∀ σ' δ', Φ δ' → EnvR G.X.K I H σ' δ' → Goes (Own δ) (Own δ') I H I H → (∀ k, k ∉ js → σ'[k]? = σ[k]?) → σ'.length = σ.length → Q σ' H) → wg G.X tg v σ H Q
section
variable {G : Gx} {δ : Env} {E : DE} {Φ : DV → Env → Prop} {pos : Pos}
theorem dgt_name {i : Nat} {x : Str} {d : D} {Φ : Env → Prop} (hi : Nth G.X.N i x) (h : Put δ i (.val d) Φ) (hN : G.X.N.Nodup) (hx : Loc G.X.env.scope x) (hf : G.X.fn x = true ∨ G.X.env.scope.names.lookup x = some .local) : dgt G (.Name x pos) d δ [i] Φ :=
  fun σ I H v y r Q q => (pg_name hN hi.eq hx hf).to (q _ _ h ((y.cons_val r).set i) (Goes.refl.sub fun a z => own_cons_val.mp (own_set z)) (fun k hk => List.getElem?_set_ne fun e => hk (by simp [e])) (by simp))
/-- a, b = .. (two names) -/
theorem dgt_pair {x y : Str} {px py : Pos} {i j k : Nat} {d e : D} {Φ : Env → Prop} (hi : Nth G.X.N i x) (hj : Nth G.X.N j y) (h : Put δ i (.val d) fun δ1 => Put δ1 j (.val e) Φ) (hN : G.X.N.Nodup) (hc : G.X.calm = true)
    (hx : Loc G.X.env.scope x) (hf : G.X.fn x = true ∨ G.X.env.scope.names.lookup x = some .local) (hy : Loc G.X.env.scope y) (hg : G.X.fn y = true ∨ G.X.env.scope.names.lookup y = some .local)
    (hn : (assignEach [.Name x px, .Name y py] G.X.env).length = 2 := by rfl) (hst : (assignEach [.Name x px, .Name y py] G.X.env).findIdx? (·.1) = none := by rfl)
    (hs1 : (assignEach (.Name x px :: [.Name y py]) G.X.env).map (·.2) = assign (.Name x px) G.X.env :: (assignEach [.Name y py] G.X.env).map (·.2) := by rfl)
    (hs2 : (assignEach (.Name y py :: []) G.X.env).map (·.2) = assign (.Name y py) G.X.env :: (assignEach [] G.X.env).map (·.2) := by rfl) :
    dgt G (.Tuple [.Name x px, .Name y py] k pos) (.tup [d, e]) δ [i, j] Φ := fun σ I H v z r Q q => by
  obtain ⟨a, xs, rfl, h1, h2⟩ := r
  obtain ⟨u, w, rfl, h3, h4⟩ := reps2 h2
  refine (pg_tup hc (pgs_cons (pg_name hN hi.eq hx hf) (pgs_cons (pg_name hN hj.eq hy hg) pgs_nil hs2) hs1) hn hst).to ?_
  refine ⟨a, _, rfl, (z.sub.sqU h1).t, rfl, ?_⟩
  refine ⟨u, _, rfl, w, _, rfl, rfl, ?_⟩
  have z1 := (z.cons_val h3).set i
  have z2 := (z1.cons_val h4).set j
  refine q _ _ h z2 (Goes.refl.sub fun a o => own_cons_val.mp (own_set (own_cons_val.mp (own_set o)))) (fun k hk => ?_) (by simp)
  simp at hk
  rw [List.getElem?_set_ne (fun e => hk.2 e.symm), List.getElem?_set_ne (fun e => hk.1 e.symm)]
/-! ### loops -/
theorem ds_for {tg iter : Expr} {body : List Stmt} (h : di G tg iter δ fun n it δ1 => ∃ (js : List Nat) (Pv : Nat → Env → Prop), Pv 0 δ1 ∧
      (∀ i d δ2, i < n → it i d → Pv i δ2 → dgt G tg d δ2 js fun δ3 => dsb G body δ3 { E with nx := Pv (i + 1), ct := Pv (i + 1), bk := E.nx }) ∧ ∀ δ2, Pv n δ2 → E.nx δ2)
    (hp : PassesOwn (model G.X.prog G.X.w) G.X.A G.X.env G.X.xe) (hc : G.X.calm = true) (hs : ∀ x, foldedSetIterable iter G.X.env x = pure x) : ds G (.For tg iter body [] pos) δ E := fun σ I H T x f =>
  (ps_for hp hc PI.of PG.of PSs.of hs).to (h σ I H x f.xc _ fun n it δ1 J I1 H1 ⟨js, Pv, h0, step, done⟩ y g yl => by
    refine ⟨fun i m σ2 H2 => i + m = n ∧ ∃ δ2 I2, Pv i δ2 ∧ EnvR G.X.K I2 H2 σ2 δ2 ∧ Goes (Own δ) (Own δ2) I H I2 H2 ∧ Le I1 I2, ⟨n, by omega, δ1, I1, h0, y, g, Le.refl _⟩, ?_⟩
    rintro i m σ2 H2 ⟨him, δ2, I2, p2, y2, g2, l2⟩
    obtain ⟨y1', y2'⟩ := yl i I2 H2 l2 y2.sub
    by_cases hi : i < n
    · obtain ⟨go, yld⟩ := y1' hi
      refine .inr ⟨go, fun σ' H' => ∃ δ' I', Pv (i + 1) δ' ∧ EnvR G.X.K I' H' σ' δ' ∧ Goes (Own δ) (Own δ') I H I' H' ∧ Le I1 I', fun σ' H' h' => ⟨m - 1, by omega, by omega, h'⟩, ?_⟩
      intro v H3 hv
      obtain ⟨I3, d, hd, re⟩ := yld v H3 hv
      have y3 := y2.grow re.le re.sub re.hh re.nw
      have g3 : Goes (Own δ2) (Own δ2) I2 H2 I3 H3 := Goes.grow re.le re.hh re.nw
      have g3' := g2.trans g3 y2.sub
      refine step i d δ2 hi hd p2 σ2 I3 H3 v y3 re.rel _ fun σ4 δ4 b4 y4 g4 _ _ => ?_
      have g4' := g3'.trans g4 y3.sub
      have f4 := f.go g4' y4.sub
      exact b4 σ4 I3 H3 _ y4 ⟨fun σ' δ' I' H' a b c => ⟨δ', I', a, b, g4'.trans c y4.sub, (l2.trans re.le).trans c.le⟩, f4.rt, f4.nx, fun σ' δ' I' H' a b c => ⟨δ', I', a, b, g4'.trans c y4.sub, (l2.trans re.le).trans c.le⟩, f4.xc⟩
    · have hn : i = n := by omega
      refine .inl ⟨y2' hn, f.nx σ2 δ2 I2 H2 (done δ2 ?_) y2 g2⟩
      rw [← hn]
      exact p2)
theorem ds_while {c : Expr} {body : List Stmt} (Pv : Nat → Env → Prop) {m0 : Nat} (h0 : Pv m0 δ)
    (step : ∀ m δ2, Pv m δ2 → dt G c δ2 fun b δ3 => if b = true then dsb G body δ3 { E with nx := fun δ4 => ∃ m', m' < m ∧ Pv m' δ4, ct := fun δ4 => ∃ m', m' < m ∧ Pv m' δ4, bk := E.nx } else E.nx δ3)
    (hp : PassesOwn (model G.X.prog G.X.w) G.X.A G.X.env G.X.xe) : ds G (.While c body [] pos) δ E := fun σ I H T x f =>
  (ps_while hp PT.of PSs.of).to (by
    refine ⟨fun m σ2 H2 => ∃ δ2 I2, Pv m δ2 ∧ EnvR G.X.K I2 H2 σ2 δ2 ∧ Goes (Own δ) (Own δ2) I H I2 H2, ⟨m0, δ, I, h0, x, Goes.refl⟩, ?_⟩
    rintro m σ2 H2 ⟨δ2, I2, p2, y2, g2⟩
    have f2 := f.go g2 y2.sub
    refine step m δ2 p2 σ2 I2 H2 y2 f2.xc _ fun b δ3 I3 H3 a3 y3 g3 => ?_
    have g3' := g2.trans g3 y2.sub
    have f3 := f.go g3' y3.sub
    cases b with
    | false =>
      rw [if_neg Bool.false_ne_true] at a3 ⊢
      exact f3.nx σ2 δ3 I3 H3 a3 y3 Goes.refl
    | true =>
      rw [if_pos rfl] at a3 ⊢
      refine ⟨fun σ4 H4 => ∃ m', m' < m ∧ ∃ δ4 I4, Pv m' δ4 ∧ EnvR G.X.K I4 H4 σ4 δ4 ∧ Goes (Own δ) (Own δ4) I H I4 H4, fun σ4 H4 h => h, ?_⟩
      exact a3 σ2 I3 H3 _ y3 ⟨fun σ4 δ4 I4 H4 ⟨m', hm, a⟩ b c => ⟨m', hm, δ4, I4, a, b, g3'.trans c y3.sub⟩, f3.rt, f3.nx, fun σ4 δ4 I4 H4 ⟨m', hm, a⟩ b c => ⟨m', hm, δ4, I4, a, b, g3'.trans c y3.sub⟩, f3.xc⟩)
/-! what may be gone over -/
theorem di_list {tg l : Expr} {Φ : Nat → (Nat → D → Prop) → Env → Prop} (h : de G l δ fun r δ1 => ∃ as, r ≠ .no ∧ r.toD = .lst as ∧ Φ as.length (fun i d => as[i]? = some d) δ1) : di G tg l δ Φ := fun σ I H x f R q =>
  (pi_list PE.of).to (h σ I H x f _ fun r δ1 v I1 H1 ⟨as, nr, e, hΦ⟩ y g => by
    obtain ⟨I2, y2, rp, g2⟩ := top_fast y g nr
    rw [e] at rp
    obtain ⟨a, xs, rfl, h1, h2⟩ := rp
    refine ⟨a, rfl, ⟨xs, SqL.of (y2.sub _ _ h1)⟩, q _ _ δ1 _ I2 H1 hΦ y2 g2 fun i I' H' l1 l2 => ?_⟩
    have hx := SqL.of (K := G.X.K) (l2 _ _ (l1 _ _ h1))
    refine ⟨fun hi => ?_, fun hi => ⟨xs, hx, by rw [h2.length]; omega⟩⟩
    obtain ⟨w, e1, e2⟩ := h2.get (List.getElem?_eq_getElem hi)
    refine ⟨⟨xs, w, hx, e1⟩, fun z H2 ⟨e3, e4⟩ => ?_⟩
    have := e4 xs hx
    rw [e1] at this
    cases this
    rw [e3]
    exact ⟨I', _, List.getElem?_eq_getElem hi, Res.val l2 (Rep.mono l1 _ _ e2)⟩)
theorem di_klist {tg l : Expr} {Φ : Nat → (Nat → D → Prop) → Env → Prop} (h : de G l δ fun r δ1 => ∃ as, r = .val (.klst as) ∧ Φ as.length (fun i d => as[i]? = some d) δ1) : di G tg l δ Φ := fun σ I H x f R q =>
  (pi_list PE.of).to (h σ I H x f _ fun r δ1 v I1 H1 ⟨as, e, hΦ⟩ y g => by
    subst e
    obtain ⟨I2, y2, rp, g2⟩ := top_fast y g (by simp)
    obtain ⟨a, xs, rfl, h1, h2⟩ := rp
    refine ⟨a, rfl, ⟨xs, y2.sub.sqL h1⟩, q _ _ δ1 _ I2 H1 hΦ y2 g2 fun i I' H' l1 l2 => ?_⟩
    have hx := l2.sqL (l1.sqL h1)
    refine ⟨fun hi => ?_, fun hi => ⟨xs, hx, by rw [h2.length]; omega⟩⟩
    obtain ⟨w, e1, e2⟩ := h2.get (List.getElem?_eq_getElem hi)
    refine ⟨⟨xs, w, hx, e1⟩, fun z H2 ⟨e3, e4⟩ => ?_⟩
    have := e4 xs hx
    rw [e1] at this
    cases this
    rw [e3]
    exact ⟨I', _, List.getElem?_eq_getElem hi, Res.val l2 (Rep.mono l1 _ _ e2)⟩)
theorem di_tup {tg l : Expr} {Φ : Nat → (Nat → D → Prop) → Env → Prop} (h : de G l δ fun r δ1 => ∃ as, r = .val (.tup as) ∧ Φ as.length (fun i d => as[i]? = some d) δ1) : di G tg l δ Φ := fun σ I H x f R q =>
  (pi_tup PE.of).to (h σ I H x f _ fun r δ1 v I1 H1 ⟨as, e, hΦ⟩ y g => by
    subst e
    obtain ⟨I2, y2, rp, g2⟩ := top_fast y g (by simp)
    obtain ⟨a, xs, rfl, h1, h2⟩ := rp
    refine ⟨a, rfl, ⟨xs, (y2.sub.sqU h1).t⟩, q _ _ δ1 _ I2 H1 hΦ y2 g2 fun i I' H' l1 l2 => ?_⟩
    have hx := (l2.sqU (l1.sqU h1)).t
    refine ⟨fun hi => ?_, fun hi => ⟨xs, hx, by rw [h2.length]; omega⟩⟩
    obtain ⟨w, e1, e2⟩ := h2.get (List.getElem?_eq_getElem hi)
    refine ⟨⟨xs, w, hx, e1⟩, fun z H2 ⟨e3, e4⟩ => ?_⟩
    have := e4 xs hx
    rw [e1] at this
    cases this
    rw [e3]
    exact ⟨I', _, List.getElem?_eq_getElem hi, Res.val l2 (Rep.mono l1 _ _ e2)⟩)
theorem di_str {tg l : Expr} {Φ : Nat → (Nat → D → Prop) → Env → Prop} (h : de G l δ fun r δ1 => ∃ s : Str, r = .val (.str s) ∧ Φ s.cps.size (fun i d => ∃ c, s.cps[i]? = some c ∧ d = .str ⟨#[c]⟩) δ1) : di G tg l δ Φ := fun σ I H x f R q =>
  (pi_str PE.of).to (h σ I H x f _ fun r δ1 v I1 H1 ⟨s, e, hΦ⟩ y g => by
    subst e
    obtain ⟨I2, y2, rp, g2⟩ := top_fast y g (by simp)
    cases (show _ = _ from rp)
    refine ⟨s, rfl, q _ _ δ1 _ I2 H1 hΦ y2 g2 fun i I' H' l1 l2 => ⟨fun hi => ⟨hi, fun z H2 ⟨e3, c, e4, e5⟩ => ?_⟩, fun hi => (by show s.cps.size ≤ i; omega)⟩⟩
    rw [e3, e5]
    exact ⟨I', .str ⟨#[c]⟩, ⟨c, e4, rfl⟩, Res.val l2 rfl⟩)
theorem wes_tcons {X : Cx} {a : Expr} {es : List Expr} {σ : L2.St} {H : Hp} {Q : List V → Hp → Prop} (h : wes X (a :: es) σ H Q) : tCons (we X a) (wes X es) σ H Q := h
theorem di_range1 {tg a : Expr} {p : Pos} {Φ : Nat → (Nat → D → Prop) → Env → Prop} (h : dgs G [a] δ fun as δ1 => ∃ n : Int, as = [.v (.int n)] ∧ n < 2 ^ 62 ∧ -(2 ^ 62) ≤ n ∧ Φ n.toNat (fun i d => d = .int (i : Int)) δ1)
    (hg : Gl G.X "range") (hm : G.X.mg "range" = none) (ha : PA G.X [a] (wes G.X [a])) (hs : starEach [a] G.X.env = [(false, eval a G.X.env)] := by rfl) : di G tg (.Call (.Name "range" p) [a] [] pos) δ Φ := fun σ I H x f R q =>
  (pi_range1 hg hm ha hs).to (h σ I H x f _ fun as δ1 vs I1 H1 ⟨n, e, h1, h2, hΦ⟩ y ar g => by
    subst e
    obtain ⟨u, r, rfl, e1, e2⟩ := ar
    cases (show _ = _ from e1)
    cases (show _ = _ from e2)
    refine ⟨n, rfl, h2, h1, q _ _ δ1 _ I1 H1 hΦ y g fun i I' H' l1 l2 => ⟨fun hi => ⟨hi, fun z H2 ⟨e3, e4⟩ => ?_⟩, fun hi => (by show n.toNat ≤ i; omega)⟩⟩
    rw [e3, e4]
    exact ⟨I', .int (i : Int), rfl, Res.val l2 (by show V.int ((0 : Int) + (i : Int)) = V.int (i : Int); rw [Int.zero_add])⟩)
theorem di_range2 {tg a b : Expr} {p : Pos} {Φ : Nat → (Nat → D → Prop) → Env → Prop} (h : dgs G [a, b] δ fun as δ1 => ∃ m n : Int, as = [.v (.int m), .v (.int n)] ∧ (-(2 ^ 62) ≤ m ∧ m < 2 ^ 62 ∧ -(2 ^ 62) ≤ n ∧ n < 2 ^ 62) ∧ Φ (n - m).toNat (fun i d => d = .int (m + (i : Int))) δ1)
    (hg : Gl G.X "range") (hm : G.X.mg "range" = none) (ha : PA G.X [a, b] (wes G.X [a, b])) (hs : starEach [a, b] G.X.env = [(false, eval a G.X.env), (false, eval b G.X.env)] := by rfl) (hs2 : starEach [b] G.X.env = [(false, eval b G.X.env)] := by rfl) :
    di G tg (.Call (.Name "range" p) [a, b] [] pos) δ Φ := fun σ I H x f R q =>
  (pi_range2 hg hm ha hs hs2).to (h σ I H x f _ fun as δ1 vs I1 H1 ⟨m, n, e, hb, hΦ⟩ y ar g => by
    subst e
    obtain ⟨u, r, rfl, e1, ar⟩ := ar
    obtain ⟨w, r, rfl, e2, e3⟩ := ar
    cases (show _ = _ from e1)
    cases (show _ = _ from e2)
    cases (show _ = _ from e3)
    refine ⟨m, n, rfl, hb, q _ _ δ1 _ I1 H1 hΦ y g fun i I' H' l1 l2 => ⟨fun hi => ⟨hi, fun z H2 ⟨e3, e4⟩ => ?_⟩, fun hi => (by show (n - m).toNat ≤ i; omega)⟩⟩
    rw [e3, e4]
    exact ⟨I', .int (m + (i : Int)), rfl, Res.val l2 rfl⟩)
end
theorem ifT {A B : Prop} (h : if true = true then A else B) : A := by
  rw [if_pos rfl] at h
  exact h
/-! ### list comprehensions -/
def wipeE (δ : Env) : List Nat → Env
  | [] => δ
  | v :: vs => (wipeE δ vs).set v .no
theorem wipeE_length (δ : Env) : ∀ vs : List Nat, (wipeE δ vs).length = δ.length
  | [] => rfl
  | v :: vs => by unfold wipeE; rw [List.length_set, wipeE_length δ vs]
theorem wipeE_in {δ : Env} {v : Nat} {y : DV} : ∀ {vs : List Nat}, v ∈ vs → (wipeE δ vs)[v]? = some y → y = .no
  | [], h, _ => by cases h
  | w :: vs, h, e => by
    unfold wipeE at e
    by_cases hw : w = v
    · subst hw
      by_cases hl : w < (wipeE δ vs).length
      · rw [List.getElem?_set_self hl] at e
        exact (Option.some.inj e).symm
      · rw [List.getElem?_eq_none (by simpa using hl)] at e
        cases e
    · rw [List.getElem?_set_ne hw] at e
      rcases List.mem_cons.mp h with h | h
      · exact absurd h.symm hw
      · exact wipeE_in h e
theorem wipeE_out {δ : Env} {v : Nat} : ∀ {vs : List Nat}, v ∉ vs → (wipeE δ vs)[v]? = δ[v]?
  | [], _ => rfl
  | w :: vs, h => by
    unfold wipeE
    simp at h
    rw [List.getElem?_set_ne (fun e => h.1 e.symm), wipeE_out h.2]
theorem own_wipe {δ : Env} {vs : List Nat} {a : Addr} (h : Own (wipeE δ vs) a) : Own δ a := by
  obtain ⟨i, c, e⟩ := h
  by_cases hi : i ∈ vs
  · cases wipeE_in hi e
  · rw [wipeE_out hi] at e
    exact ⟨i, c, e⟩
/-- slots that are forgotten may hold anything -/
theorem EnvR.rewipe {K : PySem.W.Frag} {I H : Hp} {σ σ' : L2.St} {δ : Env} {vs : List Nat} (x : EnvR K I H σ δ) (h : ∀ k, k ∉ vs → σ'[k]? = σ[k]?) (hl : σ'.length = σ.length) : EnvR K I H σ' (wipeE δ vs) := by
  refine ⟨x.sub, by rw [hl, wipeE_length, x.len], fun i d e => ?_, fun i p c e => ?_, fun i j p c c' e1 e2 => ?_⟩
  · by_cases hi : i ∈ vs
    · cases wipeE_in hi e
    · rw [wipeE_out hi] at e
      rw [h i hi]
      exact x.val i d e
  · by_cases hi : i ∈ vs
    · cases wipeE_in hi e
    · rw [wipeE_out hi] at e
      rw [h i hi]
      exact x.own i p c e
  · by_cases hi : i ∈ vs
    · cases wipeE_in hi e1
    · by_cases hj : j ∈ vs
      · cases wipeE_in hj e2
      · rw [wipeE_out hi] at e1
        rw [wipeE_out hj] at e2
        exact x.inj i j p c c' e1 e2
theorem wipe_get {σ : L2.St} {vs : List Nat} {k : Nat} (h : k ∉ vs) : (wipe σ vs)[k]? = σ[k]? := by
  induction vs with
  | nil => rfl
  | cons v vs ih =>
    simp at h
    unfold wipe
    rw [List.getElem?_set_ne (fun e => h.1 e.symm), ih h.2]
theorem wipe_at {σ : L2.St} {vs : List Nat} {k : Nat} (h : k ∈ vs) (hk : k < σ.length) : (wipe σ vs)[k]? = some none := by
  induction vs with
  | nil => cases h
  | cons v vs ih =>
    unfold wipe
    by_cases hv : v = k
    · subst hv
      rw [List.getElem?_set_self (by rw [wipe_length]; exact hk)]
    · rw [List.getElem?_set_ne hv]
      rcases List.mem_cons.mp h with h | h
      · exact absurd h.symm hv
      · exact ih h
theorem wipe_same {σ σ' : L2.St} {vs : List Nat} (h : ∀ k, k ∉ vs → σ'[k]? = σ[k]?) (hl : σ'.length = σ.length) : wipe σ' vs = wipe σ vs := by
  apply List.ext_getElem?
  intro k
  by_cases hk : k ∈ vs
  · by_cases hs : k < σ.length
    · rw [wipe_at hk hs, wipe_at hk (by omega)]
    · rw [List.getElem?_eq_none (by rw [wipe_length]; omega), List.getElem?_eq_none (by rw [wipe_length]; omega)]
  · rw [wipe_get hk, wipe_get hk, h k hk]
abbrev Gx.blk (G : Gx) (scope : Scope) (s : Shared) (H : Hp) (C : Addr) (cl : List (Str × Addr)) (fp : List Addr) : Gx := ⟨G.X.blk s H scope (compEnvC scope cl C G.X.env) fp, fun _ _ _ _ => False, fun _ _ => False⟩
theorem xfut_blk {G : Gx} {scope : Scope} {s : Shared} {H : Hp} {C : Addr} {cl : List (Str × Addr)} {fp : List Addr} {δ : Env} {I H1 : Hp} : XFut (G.blk scope s H C cl fp) δ I H1 := fun _ _ _ _ _ _ _ h => h.elim
def wgB (X : Cx) (scope : Scope) (tg : Expr) : TG := fun v σ H Q => ∀ s0 H0 C cl fp, wg (X.blk s0 H0 scope (compEnvC scope cl C X.env) fp) tg v σ H Q
def wtB (X : Cx) (scope : Scope) (e : Expr) : TT := fun σ H Q => ∀ s0 H0 C cl fp, wt (X.blk s0 H0 scope (compEnvC scope cl C X.env) fp) e σ H Q
def weB (X : Cx) (scope : Scope) (e : Expr) : TE := fun σ H Q => ∀ s0 H0 C cl fp, we (X.blk s0 H0 scope (compEnvC scope cl C X.env) fp) e σ H Q
/-- the tests of a comprehension: none, or one -/
inductive Tests (X : Cx) (scope : Scope) : List Expr → TT → Prop where
  | nil : Tests X scope [] tYes
  | one {c : Expr} : Tests X scope [c] (wtB X scope c)
def dts (G : Gx) (scope : Scope) : List Expr → Env → (Bool → Env → Prop) → Prop
  | [], δ, Φ => Φ true δ
  | [c], δ, Φ => ∀ s H C cl fp, dt (G.blk scope s H C cl fp) c δ Φ
  | _, _, _ => False
/-- what a comprehension asks -/
structure LcOk (G : Gx) (elt tg : Expr) (ifs : List Expr) (scope : Scope) (vs : List Nat) (n : Nat) (it : Nat → D → Prop) (δ1 : Env) (Ψ : List D → Env → Prop) (Pv : Nat → List D → Env → Prop) : Prop where
  h0 : Pv 0 [] (wipeE δ1 vs)
  step : ∀ i d acc δ2, i < n → it i d → Pv i acc δ2 → ∀ s H C cl fp, ∃ js, (∀ j ∈ js, j ∈ vs) ∧ dgt (G.blk scope s H C cl fp) tg d δ2 js fun δ3 => dts G scope ifs δ3 fun b δ4 =>
    if b = true then ∀ s H C cl fp, de (G.blk scope s H C cl fp) elt δ4 fun r δ5 => ∃ e, Fast r e ∧ acc.length < sizeLine ∧ Pv (i + 1) (acc ++ [e]) (wipeE δ5 vs) else Pv (i + 1) acc (wipeE δ4 vs)
  done : ∀ acc δ2, Pv n acc δ2 → Ψ acc δ2
section
variable {G : Gx} {δ : Env} {E : DE} {Φ : DV → Env → Prop} {pos : Pos}
theorem lc_reads {elt tg : Expr} {ifs : List Expr} {scope : Scope} {vs : List Nat} {n : Nat} {it : Nat → D → Prop} {δ1 : Env} {tt : TT} {Pv : Nat → List D → Env → Prop} {σ : L2.St} {I1 H1 : Hp} {J : It} {Q : VK}
    (ht : Tests G.X scope ifs tt) (y : EnvR G.X.K I1 H1 σ δ1) (yl : Yields G.X.K I1 J n it) (k : LcOk G elt tg ifs scope vs n it δ1 (fun acc δ2 => ∀ p, Φ (.own p (.lst acc)) δ2) Pv)
    (q : ∀ r δ' v I' H', Φ r δ' → EnvR G.X.K I' H' (some v :: σ) (r :: δ') → Goes (Own δ1) (Own (r :: δ')) I1 H1 I' H' → Q v H') (Dl : Addr) (hD : H1 Dl = none) :
    ∃ W : Nat → Nat → Hp → Prop, (∃ m, W 0 m (upd H1 Dl (.lst []))) ∧ ∀ i m H, W i m H →
      (J.stop i H ∧ Q (.ref Dl) H) ∨ (J.go i H ∧ ∃ Nx : Hp → Prop, (∀ H', Nx H' → ∃ m', m' < m ∧ W (i + 1) m' H') ∧ ∀ x H', J.yld i H x H' → wgB G.X scope tg x (wipe σ vs) H' fun σ2 H2 => wipe σ2 vs = wipe σ vs ∧ tt σ2 H2 fun b H3 =>
        if b = true then weB G.X scope elt σ2 H3 fun y H4 => ∃ acc, H4 Dl = some (.lst acc) ∧ acc.length < sizeLine ∧ Nx (upd H4 Dl (.lst (acc ++ [y]))) else Nx H3) := by
  have iD : I1 Dl = none := le_none y.sub hD
  -- the state between two turns: the list that is made stands apart
  let St' : Nat → Hp → Prop := fun i H => ∃ acc xs δ2 I2, Pv i acc δ2 ∧ (∃ δ0, δ2 = wipeE δ0 vs) ∧ H Dl = some (.lst xs) ∧ Reps G.X.K I2 acc xs ∧ I2 Dl = none ∧ ¬ Own δ2 Dl ∧ EnvR G.X.K I2 H (wipe σ vs) δ2 ∧ Goes (Own δ1) (Own δ2) I1 H1 I2 H ∧ Le I1 I2
  have init : St' 0 (upd H1 Dl (.lst [])) := by
    have y1 : EnvR G.X.K I1 (upd H1 Dl (.lst [])) σ δ1 := y.grow (Le.refl _) (fun a o h => by rw [upd_ne (ne_of_none h iD)]; exact y.sub _ _ h) (Le.new hD) (fun _ _ _ h => h)
    refine ⟨[], [], _, I1, k.h0, ⟨δ1, rfl⟩, upd_same, rfl, iD, fun ho => ?_, y1.rewipe (fun k hk => wipe_get hk) (wipe_length _ _), ⟨Le.refl _, fun a o h i _ => ⟨Le.new hD a o h, i⟩, fun a h => .inl (own_wipe h)⟩, Le.refl _⟩
    obtain ⟨i, c, e⟩ := own_wipe ho
    obtain ⟨o, ho⟩ := (y.own i _ c e).2.2.there
    rw [hD] at ho; cases ho
  refine ⟨fun i m H => i + m = n ∧ St' i H, ⟨n, by omega, init⟩, ?_⟩
  rintro i m H ⟨him, acc, xs, δ2, I2, p2, wz, hDl, rps, iD2, nO2, y2, g2, l2⟩
  obtain ⟨yg, ys⟩ := yl i I2 H l2 y2.sub
  by_cases hi : i < n
  · obtain ⟨go, yld⟩ := yg hi
    refine .inr ⟨go, St' (i + 1), fun H' h' => ⟨m - 1, by omega, by omega, h'⟩, fun v H3 hv => ?_⟩
    obtain ⟨I3, d, hd, re⟩ := yld v H3 hv
    have y3 := y2.grow re.le re.sub re.hh re.nw
    have g3 : Goes (Own δ2) (Own δ2) I2 H I3 H3 := Goes.grow re.le re.hh re.nw
    have g3' := g2.trans g3 y2.sub
    have hDl3 : H3 Dl = some (.lst xs) := re.hh _ _ hDl
    have iD3 : I3 Dl = none := re.nw _ _ hDl iD2
    intro s0 H0 C cl fp
    obtain ⟨js, hjs, hst⟩ := k.step i d acc δ2 hi hd p2 s0 H0 C cl fp
    refine hst (wipe σ vs) I3 H3 v y3 re.rel _ fun σ4 δ4 b4 y4 g4 hk hl => ?_
    have g4' := g3'.trans g4 y3.sub
    have nO4 : ¬ Own δ4 Dl := fun ho => by
      rcases g4.new _ ho with h | h
      · exact nO2 h
      · rw [hDl3] at h; cases h
    have ksame : ∀ k, k ∉ vs → σ4[k]? = (wipe σ vs)[k]? := fun k hk' => hk k fun h => hk' (hjs k h)
    have wsame : wipe σ4 vs = wipe σ vs := by
      rw [wipe_same ksame hl]
      exact wipe_same (fun k hk => wipe_get hk) (wipe_length _ _)
    refine ⟨wsame, ?_⟩
    -- behind a turn: what is left of it
    have back : ∀ {acc' : List D} {xs' : List V} {δ5 : Env} {I5 H5 : Hp}, Pv (i + 1) acc' (wipeE δ5 vs) → H5 Dl = some (.lst xs') → Reps G.X.K I5 acc' xs' → I5 Dl = none → ¬ Own δ5 Dl → EnvR G.X.K I5 H5 σ4 δ5 → Goes (Own δ1) (Own δ5) I1 H1 I5 H5 → Le I1 I5 → St' (i + 1) H5 := fun {acc' xs' δ5 I5 H5} a b c d e f g h =>
      ⟨acc', xs', _, I5, a, ⟨δ5, rfl⟩, b, c, d, fun o => e (own_wipe o), f.rewipe (fun k hk => (ksame k hk).symm) hl.symm, g.sub fun a o => own_wipe o, h⟩
    have elts : ∀ {δ5 : Env} {I5 H5 : Hp}, (∀ s H C cl fp, de (G.blk scope s H C cl fp) elt δ5 fun r δ6 => ∃ e, Fast r e ∧ acc.length < sizeLine ∧ Pv (i + 1) (acc ++ [e]) (wipeE δ6 vs)) → EnvR G.X.K I5 H5 σ4 δ5 → Goes (Own δ4) (Own δ5) I3 H3 I5 H5 →
        weB G.X scope elt σ4 H5 fun y H4 => ∃ acc, H4 Dl = some (.lst acc) ∧ acc.length < sizeLine ∧ St' (i + 1) (upd H4 Dl (.lst (acc ++ [y]))) := fun {δ5 I5 H5} he y5 g5 => by
      intro s0 H0 C cl fp
      refine he s0 H0 C cl fp σ4 I5 H5 y5 xfut_blk _ fun r δ6 u I6 H6 ⟨e', fs, hz, pn⟩ y6 g6 => ?_
      have nr := fs.ne
      rw [← fs.eq] at pn
      obtain ⟨I7, y7, rp7, g7⟩ := top_fast y6 g6 nr
      have g57 := g5.trans g7 y5.sub
      obtain ⟨hD7, iD7⟩ := g57.keep _ _ hDl3 iD3 nO4
      have nO7 : ¬ Own δ6 Dl := fun ho => by
        rcases g57.new _ ho with h | h
        · exact nO4 h
        · rw [hDl3] at h; cases h
      have lng : xs.length = acc.length := rps.length
      have l37 : Le I3 I7 := g57.le
      have rps' := Reps.mono (re.le.trans l37) _ _ rps
      refine ⟨xs, hD7, by rw [lng]; exact hz, ?_⟩
      have keepEnv : EnvR G.X.K I7 (upd H6 Dl (.lst (xs ++ [u]))) σ4 δ6 := by
        refine ⟨fun a o e => ?_, y7.len, y7.val, fun j p c e => ?_, y7.inj⟩
        · rw [upd_ne (ne_of_none e iD7)]
          exact y7.sub _ _ e
        · obtain ⟨a1, a2, a3⟩ := y7.own j p c e
          have hp : p ≠ Dl := fun z => nO7 ⟨j, c, by rw [← z]; exact e⟩
          exact ⟨a1, a2, a3.mono (Le.refl _) fun o ho => by rw [upd_ne hp]; exact ho⟩
      have gAll : Goes (Own δ1) (Own δ6) I1 H1 I7 (upd H6 Dl (.lst (xs ++ [u]))) := by
        have g := g4'.trans g57 y4.sub
        refine ⟨g.le, fun a o h i np => ?_, g.new⟩
        obtain ⟨z1, z2⟩ := g.keep a o h i np
        refine ⟨?_, z2⟩
        rw [upd_ne (ne_of_none h hD)]
        exact z1
      exact back pn upd_same (rps'.append (Reps.cons rp7 Reps.nil)) iD7 nO7 keepEnv gAll ((l2.trans re.le).trans l37)
    cases ht with
    | nil =>
      refine iteT (B := St' (i + 1) H3) ?_
      exact elts (ifT (B := Pv (i + 1) acc (wipeE δ4 vs)) b4) y4 Goes.refl
    | one =>
      intro s0 H0 C cl fp
      refine b4 s0 H0 C cl fp σ4 I3 H3 y4 xfut_blk _ fun b δ5 I5 H5 a5 y5 g5 => ?_
      cases b with
      | true =>
        rw [if_pos rfl] at a5 ⊢
        exact elts a5 y5 g5
      | false =>
        rw [if_neg Bool.false_ne_true] at a5 ⊢
        obtain ⟨hD5, iD5⟩ := g5.keep _ _ hDl3 iD3 nO4
        have nO5 : ¬ Own δ5 Dl := fun ho => by
          rcases g5.new _ ho with h | h
          · exact nO4 h
          · rw [hDl3] at h; cases h
        exact back a5 hD5 (Reps.mono (re.le.trans g5.le) _ _ rps) iD5 nO5 y5 (g4'.trans g5 y4.sub) ((l2.trans re.le).trans g5.le)
  · have hn : i = n := by omega
    refine .inl ⟨ys hn, ?_⟩
    have pn : Pv n acc δ2 := by rw [← hn]; exact p2
    have y2' : EnvR G.X.K I2 H σ δ2 := by
      obtain ⟨δ0, rfl⟩ := wz
      have e : wipeE (wipeE δ0 vs) vs = wipeE δ0 vs := by
        apply List.ext_getElem?
        intro k
        by_cases hk : k ∈ vs
        · cases h : (wipeE δ0 vs)[k]? with
          | none =>
            have := List.getElem?_eq_none_iff.mp h
            exact List.getElem?_eq_none (by rw [wipeE_length]; exact this)
          | some z =>
            have hz := wipeE_in hk h
            subst hz
            have hlt : k < (wipeE (wipeE δ0 vs) vs).length := by
              rw [wipeE_length]
              exact (List.getElem?_eq_some_iff.mp h).1
            have h2 := List.getElem?_eq_getElem hlt
            rw [h2, wipeE_in hk h2]
        · rw [wipeE_out hk]
      have := y2.rewipe (σ' := σ) (vs := vs) (fun k hk => (wipe_get hk).symm) (wipe_length _ _).symm
      rw [e] at this
      exact this
    refine q (.own Dl (.lst acc)) δ2 (.ref Dl) I2 H (k.done acc δ2 pn Dl) (y2'.cons_own nO2 iD2 ⟨xs, hDl, rps⟩) ⟨g2.le, g2.keep, fun a ha => ?_⟩
    obtain ⟨j, c, e⟩ := ha
    cases j with
    | zero =>
      simp at e
      obtain ⟨rfl, rfl⟩ := e
      exact .inr hD
    | succ j => exact g2.new a ⟨j, c, by simpa using e⟩
theorem tests_pts {X : Cx} {scope : Scope} {ifs : List Expr} {tt : TT} (h : Tests X scope ifs tt) (s : Shared) (H : Hp) (C : Addr) (cl : List (Str × Addr)) (fp : List Addr) : PTs (X.blk s H scope (compEnvC scope cl C X.env) fp) ifs tt := by
  cases h with
  | nil => exact pts_nil
  | one => exact pts_one ⟨fun pins s' σ H' Q I h => h s H C cl fp pins s' I⟩
theorem de_lc {elt tg iter : Expr} {ifs : List Expr} {scope : Scope} {own : List (Str × Nat)} {tt : TT} (ht : Tests G.X scope ifs tt)
    (h : di G tg iter δ fun n it δ1 => ∃ Pv, LcOk G elt tg ifs scope (own.map (·.2)) n it δ1 (fun acc δ2 => ∀ p, Φ (.own p (.lst acc)) δ2) Pv) (hc : G.X.calm = true) (hN : G.X.N.Nodup) (ok : BlkOk G.X.N G.X.env.scope scope own)
    (hs : ∀ x, foldedSetIterable iter G.X.env x = pure x := by intro _; rfl) : de G (.ListComp elt [⟨tg, iter, ifs, 0⟩] scope pos) δ Φ := fun σ I H x f Q q =>
  (pe_lc (g := wgB G.X scope tg) (tt := tt) (te := weB G.X scope elt) hc hN PI.of ok (fun s H C cl fp => ⟨fun pins s' σ H' v u Q I r h => h s H C cl fp pins s' u I r⟩) (tests_pts ht) (fun s H C cl fp => ⟨fun pins s' σ H' Q I h => h s H C cl fp pins s' I⟩) hs).to
    (h σ I H x f _ fun n it δ1 J I1 H1 ⟨Pv, k⟩ y g yl => fun Dl hD => lc_reads (Φ := Φ) ht y yl k (fun r δ' v I' H' a b c => q r δ' v I' H' a b (g.trans c y.sub)) Dl hD)
theorem ds_asgLc {i : Nat} {y : Str} {py : Pos} {elt tg iter : Expr} {ifs : List Expr} {scope : Scope} {own : List (Str × Nat)} {tt : TT} {spos : Pos} (hi : Nth G.X.N i y) (ht : Tests G.X scope ifs tt)
    (h : di G tg iter δ fun n it δ1 => ∃ Pv, LcOk G elt tg ifs scope (own.map (·.2)) n it δ1 (fun acc δ2 => ∀ p, Put δ2 i (.own p (.lst acc)) E.nx) Pv) (hc : G.X.calm = true) (hN : G.X.N.Nodup) (hyl : G.X.env.scope.names.lookup y = some .local) (ok : BlkOk G.X.N G.X.env.scope scope own)
    (hsw : swapsWith (.ListComp elt [⟨tg, iter, ifs, 0⟩] scope pos) (some (.Name y py)) spos.line G.X.env = pure true)
    (hs : ∀ x, foldedSetIterable iter G.X.env x = pure x := by intro _; rfl) : ds G (.Assign [.Name y py] (.ListComp elt [⟨tg, iter, ifs, 0⟩] scope pos) spos) δ E := fun σ I H T x f =>
  (ps_setLc (g := wgB G.X scope tg) (tt := tt) (te := weB G.X scope elt) hc hN hi.eq hyl hsw PI.of ok (fun s H C cl fp => ⟨fun pins s' σ H' v u Q I r h => h s H C cl fp pins s' u I r⟩) (tests_pts ht) (fun s H C cl fp => ⟨fun pins s' σ H' Q I h => h s H C cl fp pins s' I⟩) hs).to
    (h σ I H x f.xc _ fun n it δ1 J I1 H1 ⟨Pv, k⟩ z g yl => fun Dl hD => lc_reads (Φ := fun r δ' => Put δ' i r E.nx) ht z yl k (fun r δ' v I' H' a b c => f.nx _ _ I' H' a (b.set i) ((g.trans c z.sub).sub fun _ => own_set)) Dl hD)
end
end Zd

namespace Zd
open PySem PySem.Spec L2
open PyProof.Rows (envOfC)
/-! ### promises over data: a def that changes nothing that stood -/
abbrev PSp := List D → (DV → Prop) → (Exn → Prop) → Prop
def spP (K : PySem.W.Frag) (n : Nat) (S : PSp) : Sp := fun vs H Q E => vs.length = n ∧ ∃ I ds Ψ Ξ, Le I H ∧ Reps K I ds vs ∧ S ds Ψ Ξ ∧ (∀ r v I' H', Ψ r → Res K I H I' H' r v → Q v H') ∧
  (∀ x cls d I' H', Ξ x → Le I I' → (∀ a o, H a = some o → H' a = some o) → (∀ a o, H a = some o → I a = none → I' a = none) → Le I' H' → ExnR K I' H' cls d x → E cls d H')
/-- a def that changes its first argument alone -/
abbrev MSp := Cell → List D → (DV → Cell → Prop) → (Exn → Cell → Prop) → Prop
structure ResM (K : PySem.W.Frag) (I H I' H' : Hp) (p : Addr) (c : Cell) : Prop where
  le : Le I I'
  keep : ∀ a o, a ≠ p → H a = some o → H' a = some o ∧ (I a = none → I' a = none)
  ip : I' p = none
  cell : CellR K I' H' p c
  sub : Le I' H'
def relM (K : PySem.W.Frag) (H I' H' : Hp) (p : Addr) (v : V) : DV → Prop
  | .no => False
  | .val d => Rep K I' d v
  | .own q c => v = .ref q ∧ q ≠ p ∧ H q = none ∧ I' q = none ∧ CellR K I' H' q c
def spM (K : PySem.W.Frag) (n : Nat) (S : MSp) : Sp := fun vs H Q E => vs.length = n ∧ ∃ p vs' I c ds Ψ Ξ, vs = .ref p :: vs' ∧ Le I H ∧ I p = none ∧ CellR K I H p c ∧ Reps K I ds vs' ∧ S c ds Ψ Ξ ∧
  (∀ r c' v I' H', Ψ r c' → ResM K I H I' H' p c' → relM K H I' H' p v r → Q v H') ∧ (∀ x c' cls d I' H', Ξ x c' → ResM K I H I' H' p c' → ExnR K I' H' cls d x → E cls d H')
section
variable {P : Program} {w : World} {K : PySem.W.Frag} {mg : Str → Option Value} {base : Heap}
abbrev fX (P : Program) (w : World) (K : PySem.W.Frag) (mg : Str → Option Value) (base : Heap) (N : List Str) (qual : Str) (st : Stmt) (f : Addr) (cdv : Value) (A : Around) (outer : List PySem.Env) (s : Shared) (H : Hp) (E : XK) : Cx :=
  cxOf (L2.CX P w) P w K mg base N qual (defScope st) f cdv A outer s H E
abbrev fW (E : XK) : WX := fun cls d _ H => E cls d H
theorem takes_f {N : List Str} {qual : Str} {st : Stmt} {f : Addr} {cdv : Value} {A : Around} {outer : List PySem.Env} {s : Shared} {H : Hp} {E : XK} : Takes (fX P w K mg base N qual st f cdv A outer s H E) (fW E) := takes_of rfl rfl rfl rfl
theorem passes_f {N : List Str} {qual : Str} {st : Stmt} {f : Addr} {cdv : Value} {A : Around} {outer : List PySem.Env} {s : Shared} {H : Hp} {E : XK} :
    PassesOwn (model P w) (fX P w K mg base N qual st f cdv A outer s H E).A (fX P w K mg base N qual st f cdv A outer s H E).env (fX P w K mg base N qual st f cdv A outer s H E).xe := passes_of rfl
theorem start_env {I H : Hp} {ds : List D} {vs : List V} {N : List Str} (s : Le I H) (r : Reps K I ds vs) (hl : vs.length ≤ N.length) : EnvR K I H (L2.start N vs) (ds.map .val ++ List.replicate (N.length - ds.length) .no) := by
  have lv : vs.length = ds.length := r.length
  have get : ∀ (i : Nat) y, (ds.map DV.val ++ List.replicate (N.length - ds.length) DV.no)[i]? = some y → y = .no ∨ ∃ d, ds[i]? = some d ∧ y = .val d := fun i y e => by
    by_cases hi : i < ds.length
    · rw [List.getElem?_append_left (by simpa using hi), List.getElem?_map] at e
      rw [List.getElem?_eq_getElem hi] at e
      simp at e
      exact .inr ⟨_, List.getElem?_eq_getElem hi, e.symm⟩
    · rw [List.getElem?_append_right (by simpa using hi)] at e
      have := List.mem_of_getElem? e
      exact .inl (List.eq_of_mem_replicate this)
  refine ⟨s, by simp [L2.start, lv], fun i d e => ?_, fun i p c e => ?_, fun i j p c c' e => ?_⟩
  · rcases get i _ e with h | ⟨d', h1, h2⟩
    · cases h
    · cases h2
      obtain ⟨v, g1, g2⟩ := r.get h1
      refine ⟨v, ?_, g2⟩
      unfold L2.start
      have hi : i < vs.length := (List.getElem?_eq_some_iff.mp g1).1
      rw [List.getElem?_append_left (by simpa using hi), List.getElem?_map, g1]
      rfl
  · rcases get i _ e with h | ⟨d', h1, h2⟩
    · cases h
    · cases h2
  · rcases get i _ e with h | ⟨d', h1, h2⟩
    · cases h
    · cases h2
theorem no_own {ds : List D} {k : Nat} {a : Addr} : ¬ Own (ds.map .val ++ List.replicate k .no) a := fun ⟨i, c, e⟩ => by
  by_cases hi : i < ds.length
  · rw [List.getElem?_append_left (by simpa using hi), List.getElem?_map, List.getElem?_eq_getElem hi] at e
    simp at e
  · rw [List.getElem?_append_right (by simpa using hi)] at e
    have := List.eq_of_mem_replicate (List.mem_of_getElem? e)
    cases this
/-- what may come back -/
def okR : DV → Prop → Prop
  | .no, _ => False
  | .val _, p => p
  | .own _ _, p => p
abbrev pE (Ψ : DV → Prop) : DE := ⟨fun _ => Ψ (.val .non), fun r _ => okR r (Ψ r), fun _ => False, fun _ => False⟩
theorem fn_P {x qual : Str} {st : Stmt} {f : Addr} {fd : FuncData} {N ps : List Str} {k : Nat} {S : PSp} (F : Fun K x qual st f fd) (Sc : FnScope N ps (defScope st)) (hN : ps.length ≤ N.length)
    (hbody : ∀ (cdv : Value) (A : Around) (outer : List PySem.Env) (s : Shared) (H : Hp) (E : XK) (ds : List D) (Ψ : DV → Prop) (Ξ : Exn → Prop), Room k (A.deeper (envOfC qual (defScope st) s.heap.objs.size f cdv)) → ds.length = ps.length → S ds Ψ Ξ →
      dsb ⟨fX P w K mg base N qual st f cdv A outer s H E, fW E, fun x _ => Ξ x⟩ (defBody st) (ds.map .val ++ List.replicate (N.length - ds.length) .no) (pE Ψ)) : FnOk P w K mg base (L2.CX P w) (k + 1) f fd ps (spP K ps.length S) := by
  refine F.okX Sc (fun vs H Q E h => h.1) (fun cdv A outer s H vs Q E hr h => ?_)
  obtain ⟨hl, I, ds, Ψ, Ξ, sb, rp, hS, hq, he⟩ := h
  have ld : ds.length = ps.length := by rw [← rp.length, hl]
  refine ⟨_, PSs.of, ?_⟩
  refine hbody cdv A outer s H E ds Ψ Ξ hr ld hS _ I H _ (start_env sb rp (by omega)) ⟨fun σ' δ' I' H' a y g => ?_, fun r v σ' δ' I' H' a y g => ?_, fun σ' δ' I' H' a => a.elim, fun σ' δ' I' H' a => a.elim, ?_⟩
  · exact hq (.val .non) .non I' H' a ⟨g.le, fun a o h => by
      cases hi : I a with
      | some u => rw [sb _ _ hi] at h; cases h; exact y.sub _ _ (g.le _ _ hi)
      | none => exact (g.keep a o h hi no_own).1, fun a o h hi => (g.keep a o h hi no_own).2, y.sub, rfl⟩
  · have nr : r ≠ .no := fun e => by rw [e] at a; exact a
    have a : Ψ r := by
      cases r with
      | no => exact absurd rfl nr
      | val d => exact a
      | own p c => exact a
    refine hq r v I' H' a ⟨g.le, fun a o h => ?_, fun a o h hi => (g.keep a o h hi no_own).2, y.sub, ?_⟩
    · cases hi : I a with
      | some u => rw [sb _ _ hi] at h; cases h; exact y.sub _ _ (g.le _ _ hi)
      | none => exact (g.keep a o h hi no_own).1
    · cases r with
      | no => exact absurd rfl nr
      | val d =>
        obtain ⟨u, h1, h2⟩ := y.head_val
        cases h1
        exact h2
      | own p c =>
        obtain ⟨h1, h2, h3, h4⟩ := y.head_own
        cases h1
        refine ⟨rfl, h2, ?_, h3⟩
        rcases g.new p ⟨0, c, rfl⟩ with h | h
        · exact absurd h no_own
        · exact h
  · intro x δ' σ' I' H' cls d a y g ex
    exact he x cls d I' H' a g.le (fun a o h => by
      cases hi : I a with
      | some u => rw [sb _ _ hi] at h; cases h; exact y.sub _ _ (g.le _ _ hi)
      | none => exact (g.keep a o h hi no_own).1) (fun a o h hi => (g.keep a o h hi no_own).2) y.sub ex
end
end Zd

namespace Zd
open PySem PySem.Spec L2
open PyProof.Rows (envOfC)
section
variable {P : Program} {w : World} {K : PySem.W.Frag} {mg : Str → Option Value} {base : Heap}
/-- less is said of a thing -/
inductive Weak : Cell → Cell → Prop where
  | refl {c : Cell} : Weak c c
  | ab {ds : List D} {P : List D → Prop} (h : P ds) : Weak (.lst ds) (.ab P)
theorem Weak.cell {K : PySem.W.Frag} {I H : Hp} {p : Addr} {c c' : Cell} (w : Weak c c') (h : CellR K I H p c) : CellR K I H p c' := by
  cases w with
  | refl => exact h
  | ab hp =>
    obtain ⟨xs, h1, h2⟩ := h
    exact ⟨_, xs, h1, h2, hp⟩
/-- behind a def that changes its first argument alone: that argument is where it was -/
abbrev mE (p : Addr) (Ψ : DV → Cell → Prop) : DE := ⟨fun δ' => ∃ c' c'', δ'[0]? = some (.own p c') ∧ Weak c' c'' ∧ Ψ (.val .non) c'', fun r δ' => okR r (∃ c' c'', δ'[0]? = some (.own p c') ∧ Weak c' c'' ∧ Ψ r c''), fun _ => False, fun _ => False⟩
theorem own_start {p : Addr} {c : Cell} {ds : List D} {k : Nat} {a : Addr} (h : Own (.own p c :: (ds.map .val ++ List.replicate k .no)) a) : a = p := by
  obtain ⟨i, c', e⟩ := h
  cases i with
  | zero => simp at e; exact e.1.symm
  | succ i => exact absurd ⟨i, c', by simpa using e⟩ no_own
theorem fn_M {x qual : Str} {st : Stmt} {f : Addr} {fd : FuncData} {N ps : List Str} {k : Nat} {S : MSp} (F : Fun K x qual st f fd) (Sc : FnScope N ps (defScope st)) (hN : ps.length ≤ N.length)
    (hbody : ∀ (cdv : Value) (A : Around) (outer : List PySem.Env) (s : Shared) (H : Hp) (E : XK) (p : Addr) (c : Cell) (ds : List D) (Ψ : DV → Cell → Prop) (Ξ : Exn → Cell → Prop), Room k (A.deeper (envOfC qual (defScope st) s.heap.objs.size f cdv)) → ds.length + 1 = ps.length → S c ds Ψ Ξ →
      dsb ⟨fX P w K mg base N qual st f cdv A outer s H E, fW E, fun x δ' => ∃ c' c'', δ'[0]? = some (.own p c') ∧ Weak c' c'' ∧ Ξ x c''⟩ (defBody st) (.own p c :: (ds.map .val ++ List.replicate (N.length - (ds.length + 1)) .no)) (mE p Ψ)) : FnOk P w K mg base (L2.CX P w) (k + 1) f fd ps (spM K ps.length S) := by
  refine F.okX Sc (fun vs H Q E h => h.1) (fun cdv A outer s H vs Q E hr h => ?_)
  obtain ⟨hl, p, vs', I, c, ds, Ψ, Ξ, rfl, sb, ip, hc, rp, hS, hq, he⟩ := h
  have ld : ds.length + 1 = ps.length := by rw [← rp.length]; simpa using hl
  refine ⟨_, PSs.of, ?_⟩
  have y0 : EnvR K I H (L2.start N (.ref p :: vs')) (.own p c :: (ds.map .val ++ List.replicate (N.length - (ds.length + 1)) .no)) := by
    cases N with
    | nil =>
      have hN' : ps.length ≤ 0 := hN
      omega
    | cons n0 N' =>
      have e1 : L2.start (n0 :: N') (.ref p :: vs') = some (.ref p) :: L2.start N' vs' := by
        unfold L2.start
        simp
      have e2 : (n0 :: N').length - (ds.length + 1) = N'.length - ds.length := by simp
      rw [e1, e2]
      have y := start_env (N := N') sb rp (by
        have h1 := rp.length
        have h2 : ps.length ≤ N'.length + 1 := hN
        omega)
      exact y.cons_own no_own ip hc
  have fin : ∀ {δ' : Env} {c' c'' : Cell} {σ' : St} {I' H' : Hp}, δ'[0]? = some (.own p c') → Weak c' c'' → EnvR K I' H' σ' δ' → Goes (Own (.own p c :: (ds.map .val ++ List.replicate (N.length - (ds.length + 1)) .no))) (Own δ') I H I' H' → ResM K I H I' H' p c'' := fun {δ' c' c'' σ' I' H'} e wk y g => by
    obtain ⟨_, h2, h3⟩ := y.own 0 p c' e
    refine ⟨g.le, fun a o hne h => ?_, h2, wk.cell h3, y.sub⟩
    cases hi : I a with
    | some u =>
      rw [sb _ _ hi] at h; cases h
      exact ⟨y.sub _ _ (g.le _ _ hi), fun z => by cases z⟩
    | none =>
      obtain ⟨z1, z2⟩ := g.keep a o h hi fun ho => hne (own_start ho)
      exact ⟨z1, fun _ => z2⟩
  refine hbody cdv A outer s H E p c ds Ψ Ξ hr ld hS _ I H _ y0 ⟨fun σ' δ' I' H' a y g => ?_, fun r v σ' δ' I' H' a y g => ?_, fun σ' δ' I' H' a => a.elim, fun σ' δ' I' H' a => a.elim, ?_⟩
  · obtain ⟨c', c'', e, wk, a⟩ := a
    exact hq (.val .non) c'' .non I' H' a (fin e wk y g) rfl
  · have nr : r ≠ .no := fun e => by rw [e] at a; exact a
    have a : ∃ c' c'', δ'[0]? = some (.own p c') ∧ Weak c' c'' ∧ Ψ r c'' := by
      cases r with
      | no => exact absurd rfl nr
      | val d => exact a
      | own p c => exact a
    obtain ⟨c', c'', e, wk, a⟩ := a
    refine hq r c'' v I' H' a (fin e wk y.tail (g.sub fun a h => h.tail)) ?_
    cases r with
    | no => exact absurd rfl nr
    | val d =>
      obtain ⟨u, h1, h2⟩ := y.head_val
      cases h1
      exact h2
    | own q cq =>
      obtain ⟨h1, h2, h3, h4⟩ := y.head_own
      cases h1
      have hne : q ≠ p := fun z => h4 ⟨0, c', by rw [z]; exact e⟩
      refine ⟨rfl, hne, ?_, h2, h3⟩
      rcases g.new q ⟨0, cq, rfl⟩ with h | h
      · exact absurd (own_start h) hne
      · exact h
  · intro x δ' σ' I' H' cls d ⟨c', c'', e, wk, a⟩ y g ex
    exact he x c'' cls d I' H' a (fin e wk y g) ex
end

/-! ### calls -/
theorem args_vals {K : PySem.W.Frag} {I : Hp} {σ : St} : ∀ {ds : List D} {vs : List V}, ArgsR K I σ (ds.map Arg.v) vs → Reps K I ds vs
  | [], _, h => h
  | d :: ds, _, h => by
    obtain ⟨u, r, h1, h2, h3⟩ := h
    exact ⟨u, r, h1, h2, args_vals h3⟩
mutual
def flatX : Exn → Bool
  | .mk _ _ ds => flatDs ds
  | .plain _ => true
end
section
variable {G : Gx} {δ : Env} {E : DE} {Φ : DV → Env → Prop} {pos : Pos} {k j : Nat} {f : Addr} {fd : FuncData} {ps : List Str} {x : Str} {p : Pos}
/-- f(..): a def that changes nothing -/
theorem de_callP {S : PSp} {e : Expr} {es : List Expr} (F : FnOk G.X.prog G.X.w G.X.K G.X.mg G.X.base (L2.CX G.X.prog G.X.w) j f fd ps (spP G.X.K ps.length S)) (hm : G.X.mg x = some (.ref f)) (hk : PySem.W.keepIn G.X.K (.ref f) = true) (hb : Binds G.X.K fd ps [])
    (h : dgs G (e :: es) δ fun as δ1 => ∃ ds b, ArgsD δ1 as ds b ∧ ds.length = ps.length ∧ S ds (fun r => (b = true → flatV r = true) ∧ Φ r δ1) (fun x => (b = true → flatX x = true) ∧ G.Ξ x δ1))
    (hr : Room k G.X.A) (hj : j ≤ k) (tk : Takes G.X G.W) (hg : Gl G.X x) (ha : PA G.X (e :: es) (wes G.X (e :: es)))
    (hdb : (x == ("__debug__" : Str)) = false := by decide) (he : starEach (e :: es) G.X.env = (false, eval e G.X.env) :: starEach es G.X.env := by rfl) (hpl : (backTo pos (starEach es G.X.env)).any (·.1) = false := by rfl) :
    de G (.Call (.Name x p) (e :: es) [] pos) δ Φ := fun σ I H y fu Q q =>
  (pe_callS (E := fun σ => WE G.W σ) F (hr.mono hj) hg hm hk hb (fun σ => passAt tk σ) ha hdb he hpl).to (h σ I H y fu _ fun as δ1 vs I1 H1 ⟨ds, b, hd, hl, hS⟩ y1 ar g => by
    obtain ⟨I2, bo, rp, hb⟩ := borrow y1 ar hd
    refine ⟨by rw [rp.length]; exact hl, I2, ds, _, _, bo.sub, rp, hS, fun r v I' H' ⟨hf, hΦ⟩ re => ?_, fun ex cls d I' H' ⟨hf, hx⟩ le hh nw sb xr => ?_⟩
    · obtain ⟨I'', z, g'⟩ := unlent y1 bo hb hf re
      exact q r δ1 v I'' H' hΦ z (g.trans g' y1.sub)
    · have fut := fu.go g y1.sub
      cases b with
      | false =>
        cases hb rfl
        exact fut ex δ1 σ I' H' cls d hx (y1.grow le sb hh nw) (Goes.grow le hh nw) xr
      | true =>
        obtain ⟨I'', z, g'⟩ := unlent (r := .val .non) (v := .non) (b := true) y1 bo hb (fun _ => rfl) ⟨le, hh, nw, sb, rfl⟩
        refine fut ex δ1 σ (unlend I1 I2 I') H' cls d hx ?_ ?_ ?_
        · exact y1.grow (unlend_low (bo.le.trans le)) (unlend_le sb) hh fun a o h i => by
            by_cases hc : I1 a = none ∧ I2 a ≠ none
            · exact unlend_none hc
            · rw [unlend_of hc]
              refine nw a o h ?_
              cases e : I2 a with
              | none => rfl
              | some u => exact absurd ⟨i, by rw [e]; simp⟩ hc
        · exact Goes.grow (unlend_low (bo.le.trans le)) hh fun a o h i => by
            by_cases hc : I1 a = none ∧ I2 a ≠ none
            · exact unlend_none hc
            · rw [unlend_of hc]
              refine nw a o h ?_
              cases e : I2 a with
              | none => rfl
              | some u => exact absurd ⟨i, by rw [e]; simp⟩ hc
        · cases ex with
          | plain c => exact xr
          | mk C ks ds =>
            obtain ⟨h1, dx, fs, h2, h3, h4, h5⟩ := xr
            exact ⟨h1, dx, fs, h2, h3, h4, flat_reps bo le ds _ (hf rfl) h5⟩)
/-- f(x, ..): x holds a thing of one's own, which f changes -/
theorem de_callM {S : MSp} {i : Nat} {y : Str} {py : Pos} {es : List Expr} {q : Addr} {c0 : Cell} (F : FnOk G.X.prog G.X.w G.X.K G.X.mg G.X.base (L2.CX G.X.prog G.X.w) j f fd ps (spM G.X.K ps.length S)) (hm : G.X.mg x = some (.ref f)) (hk : PySem.W.keepIn G.X.K (.ref f) = true) (hb : Binds G.X.K fd ps [])
    (hi : Nth G.X.N i y) (hδ : δ[i]? = some (.own q c0))
    (h : dgs G es δ fun as δ1 => ∃ c ds, δ1[i]? = some (.own q c) ∧ as = ds.map Arg.v ∧ ds.length + 1 = ps.length ∧ S c ds (fun r c' => okR r (Put δ1 i (.own q c') (Φ r))) (fun x c' => Put δ1 i (.own q c') (G.Ξ x)))
    (hr : Room k G.X.A) (hj : j ≤ k) (tk : Takes G.X G.W) (hg : Gl G.X x) (hv : Vis G.X.env.scope y) (ha : PA G.X (.Name y py :: es) (wes G.X (.Name y py :: es))) (hd : (y == ("__debug__" : Str)) = false := by decide) (hcd : (y == ("__classdict__" : Str)) = false := by decide)
    (hdb : (x == ("__debug__" : Str)) = false := by decide) (he : starEach (.Name y py :: es) G.X.env = (false, eval (.Name y py) G.X.env) :: starEach es G.X.env := by rfl) (hpl : (backTo pos (starEach es G.X.env)).any (·.1) = false := by rfl) :
    de G (.Call (.Name x p) (.Name y py :: es) [] pos) δ Φ := fun σ I H z fu Q k' =>
  (pe_callS (E := fun σ => WE G.W σ) F (hr.mono hj) hg hm hk hb (fun σ => passAt tk σ) ha hdb he hpl).to (by
    obtain ⟨h1, h2, h3⟩ := z.own i q c0 hδ
    refine we_slot hi hv hd hcd h1 ?_
    refine h σ I H z fu _ fun as δ1 vs I1 H1 ⟨c, ds, hc, has, hl, hS⟩ y1 ar g => ?_
    subst has
    have rp := args_vals ar
    obtain ⟨g1, g2, g3⟩ := y1.own i q c hc
    have upd1 : ∀ {I' H' : Hp} {c' : Cell}, ResM G.X.K I1 H1 I' H' q c' → EnvR G.X.K I' H' σ (δ1.set i (.own q c')) ∧ Goes (Own δ1) (Own (δ1.set i (.own q c'))) I1 H1 I' H' := fun {I' H' c'} re => by
      have hlt : i < δ1.length := (List.getElem?_eq_some_iff.mp hc).1
      have key : ∀ (j : Nat) (y : DV), (δ1.set i (.own q c'))[j]? = some y → (j = i ∧ y = .own q c') ∨ (j ≠ i ∧ δ1[j]? = some y) := fun j y e => by
        by_cases hj : j = i
        · subst hj
          rw [List.getElem?_set_self hlt] at e
          exact .inl ⟨rfl, (Option.some.inj e).symm⟩
        · rw [List.getElem?_set_ne (Ne.symm hj)] at e
          exact .inr ⟨hj, e⟩
      refine ⟨⟨re.sub, by simp [y1.len], fun j d e => ?_, fun j a e' e => ?_, fun j l a c1 c2 e1 e2 => ?_⟩, re.le, fun a o h i np => ?_, fun a ha => .inl ((own_upd hc).mp ha)⟩
      · rcases key j _ e with ⟨_, z⟩ | ⟨_, z⟩
        · cases z
        · obtain ⟨v, w1, w2⟩ := y1.val j d z
          exact ⟨v, w1, Rep.mono re.le _ _ w2⟩
      · rcases key j _ e with ⟨z1, z2⟩ | ⟨hj, z⟩
        · cases z2
          rw [z1]
          exact ⟨g1, re.ip, re.cell⟩
        · obtain ⟨w1, w2, w3⟩ := y1.own j a e' z
          have hne : a ≠ q := fun y => by
            rw [y] at z
            exact hj (y1.inj j i q _ _ z hc)
          obtain ⟨o, ho⟩ := w3.there
          exact ⟨w1, (re.keep a o hne ho).2 w2, w3.mono re.le fun o ho => (re.keep a o hne ho).1⟩
      · rcases key j _ e1 with ⟨y1', y2⟩ | ⟨hj, y⟩ <;> rcases key l _ e2 with ⟨z1, z2⟩ | ⟨hk', z⟩
        · rw [y1', z1]
        · cases y2
          exact absurd (y1.inj l i q _ _ z hc) hk'
        · cases z2
          exact absurd (y1.inj j i q _ _ y hc) hj
        · exact y1.inj j l a c1 c2 y z
      · have hne : a ≠ q := fun e => np ⟨_, c, by rw [e]; exact hc⟩
        obtain ⟨z1, z2⟩ := re.keep a o hne h
        exact ⟨z1, z2 i⟩
    refine ⟨by simp [rp.length]; exact hl, q, vs, I1, c, ds, _, _, rfl, y1.sub, g2, g3, rp, hS, fun r c' v I' H' hΦ re rl => ?_, fun ex c' cls d I' H' hx re xr => ?_⟩
    · obtain ⟨y2, gg⟩ := upd1 re
      have g12 := g.trans gg y1.sub
      cases r with
      | no => exact hΦ.elim
      | val d => exact k' _ _ v I' H' hΦ (y2.cons_val rl) (g12.sub fun a h => own_cons_val.mp h)
      | own b cb =>
        obtain ⟨e1, e2, e3, e4, e5⟩ := rl
        subst e1
        have nO : ¬ Own (δ1.set i (.own q c')) b := fun ho => by
          obtain ⟨jj, cc, ee⟩ := (own_upd hc).mp ho
          obtain ⟨_, _, w3⟩ := y1.own jj b cc ee
          obtain ⟨o, ho⟩ := w3.there
          rw [e3] at ho; cases ho
        refine k' _ _ _ I' H' hΦ (y2.cons_own nO e4 e5) ((g.trans ⟨gg.le, gg.keep, fun a ha => ?_⟩ y1.sub))
        obtain ⟨jj, cc, ee⟩ := ha
        cases jj with
        | zero =>
          simp at ee
          obtain ⟨rfl, rfl⟩ := ee
          exact .inr e3
        | succ jj => exact gg.new a ⟨jj, cc, by simpa using ee⟩
    · obtain ⟨y2, gg⟩ := upd1 re
      exact (fu.go g y1.sub) ex _ σ I' H' cls d hx y2 gg xr)
/-- a built-in, by its name -/
theorem de_callB {id : String} {e : Expr} {es : List Expr} (hm : G.X.mg x = none) (hv : bootBuiltins x = some (.builtin id)) (h : dgs G (e :: es) δ (Asked G (wcall G.X (.builtin id)) Φ)) (hg : Gl G.X x) (ha : PA G.X (e :: es) (wes G.X (e :: es)))
    (hn : x ≠ "__name__" := by decide) (hdb : (x == ("__debug__" : Str)) = false := by decide)
    (he : starEach (e :: es) G.X.env = (false, eval e G.X.env) :: starEach es G.X.env := by rfl) (hpl : (backTo pos (starEach es G.X.env)).any (·.1) = false := by rfl) : de G (.Call (.Name x p) (e :: es) [] pos) δ Φ :=
  de_R (fun σ H Q h => (pe_callB CallR.of hg hm hv ha hn hdb he hpl).to h) h
theorem de_callTy {T : String} {e : Expr} {es : List Expr} (hm : G.X.mg x = none) (hv : bootBuiltins x = some (.type T)) (h : dgs G (e :: es) δ (Asked G (wcall G.X (.type T)) Φ)) (hg : Gl G.X x) (ha : PA G.X (e :: es) (wes G.X (e :: es)))
    (hn : x ≠ "__name__" := by decide) (hdb : (x == ("__debug__" : Str)) = false := by decide)
    (he : starEach (e :: es) G.X.env = (false, eval e G.X.env) :: starEach es G.X.env := by rfl) (hpl : (backTo pos (starEach es G.X.env)).any (·.1) = false := by rfl) : de G (.Call (.Name x p) (e :: es) [] pos) δ Φ :=
  de_R (fun σ H Q h => (pe_callTy CallR.of hg hm hv ha hn hdb he hpl).to h) h
/-- the name of a built-in class, as a value -/
theorem de_bltn {T : String} (hm : G.X.mg x = none) (hv : bootBuiltins x = some (.type T)) (h : Φ (.val (.raw (.ty T))) δ) (hg : Gl G.X x) (hn : x ≠ "__name__" := by decide) (hdb : (x == ("__debug__" : Str)) = false := by decide) : de G (.Name x pos) δ Φ :=
  de_const (pe_bltn hg hm hv (v := .ty T) rfl hn hdb) (d := .raw (.ty T)) (fun _ => rfl) h
/-- list(range(..)) -/
theorem de_listRg1 {a : Expr} {p' pos' : Pos} (h : dgs G [a] δ fun as δ1 => ∃ n : Int, as = [.v (.int n)] ∧ 0 ≤ n ∧ n ≤ 16777216 ∧ ∀ q, Φ (.own q (.lst ((List.range n.toNat).map fun i : Nat => D.int (i : Int)))) δ1)
    (hc : G.X.calm = true) (hg : Gl G.X "list") (hm : G.X.mg "list" = none) (hg' : Gl G.X "range") (hm' : G.X.mg "range" = none) (na : starEach [a] G.X.env = (false, eval a G.X.env) :: starEach [] G.X.env := by rfl)
    (na' : starEach [.Call (.Name "range" p') [a] [] pos'] G.X.env = (false, eval (.Call (.Name "range" p') [a] [] pos') G.X.env) :: starEach [] G.X.env := by rfl) :
    de G (.Call (.Name "list" p) [.Call (.Name "range" p') [a] [] pos'] [] pos) δ Φ := fun σ I H y f Q q =>
  (pe_listRg hc hg hm (prg_1 hg' hm' PE.of na) na').to (we_mono (h σ I H y f (fun vs H1 => ∃ v, vs = [v] ∧ (fun x H1 => ∃ n, x = V.int n ∧ (fun a b H1 => RgOk a b ∧ ∀ q, H1 q = none → Q (.ref q) (upd H1 q (.lst (rgV a b)))) 0 n H1) v H1) fun as δ1 vs I1 H1 ⟨n, e, h0, h1, hΦ⟩ y1 ar g => by
    subst e
    obtain ⟨u, r, rfl, e1, e2⟩ := ar
    cases (show _ = _ from e1)
    cases (show _ = _ from e2)
    refine ⟨_, rfl, n, rfl, RgOk.of_le (Int.le_refl _) h1 (by decide) h0, fun b hb => ?_⟩
    have rp : Reps G.X.K I1 ((List.range n.toNat).map fun i : Nat => D.int (i : Int)) (rgV 0 n) := by
      have e : rgV 0 n = ((List.range n.toNat).map fun i : Nat => (i : Int)).map V.int := by
        unfold rgV
        rw [List.map_map, Int.sub_zero]
        refine List.map_congr_left fun i _ => ?_
        show V.int ((0 : Int) + (i : Int)) = V.int (i : Int)
        rw [Int.zero_add]
      have e' : ((List.range n.toNat).map fun i : Nat => D.int (i : Int)) = ((List.range n.toNat).map fun i : Nat => (i : Int)).map D.int := by
        rw [List.map_map]; rfl
      rw [e, e']
      exact Reps.of_ints _
    obtain ⟨I2, z, g2⟩ := unlent (b := false) y1 (Bor.refl y1.sub) (fun _ => rfl) (fun e => by cases e) (Res.own (c := .lst ((List.range n.toNat).map fun i : Nat => D.int (i : Int))) y1.sub hb ⟨_, upd_same, rp⟩)
    exact q _ δ1 _ I2 _ (hΦ b) z (g.trans g2 y1.sub)) fun v H1 ⟨u, e, h⟩ => by
      cases e
      exact h)
/-! ### a list of one's own changes -/
theorem de_append {i : Nat} {y : Str} {py apos : Pos} {q : Addr} {c0 : Cell} {e : Expr} (hi : Nth G.X.N i y) (hδ : δ[i]? = some (.own q c0))
    (h : dgs G [e] δ fun as δ1 => ∃ d ds, as = [.v d] ∧ δ1[i]? = some (.own q (.lst ds)) ∧ ds.length < sizeLine ∧ Put δ1 i (.own q (.lst (ds ++ [d]))) (Φ (.val .non))) (hq : ∃ ds, c0 = .lst ds) (hv : Vis G.X.env.scope y)
    (hd : (y == ("__debug__" : Str)) = false := by decide) (hcd : (y == ("__classdict__" : Str)) = false := by decide)
    (hbase : attributeBase (.Name y py) "append" G.X.env (eval (.Name y py) G.X.env) = eval (.Name y py) G.X.env := by rfl)
    (hfew : ((backTo pos (starEach [e] G.X.env)).all (fun x => !x.1) && (backToKw pos (keywordEach [] G.X.env)).all (fun x => x.1.isSome) && decide ([e].length + ([] : List Keyword).length + (if ([] : List Keyword).isEmpty then 0 else 1) < 30)) = true := by rfl)
    (hline : (apos.endLine == pos.line) = true := by rfl) (hs : starEach [e] G.X.env = (false, eval e G.X.env) :: starEach [] G.X.env := by rfl) (hplain : (backTo pos (starEach [] G.X.env)).any (·.1) = false := by rfl) :
    de G (.Call (.Attribute (.Name y py) "append" apos) [e] [] pos) δ Φ := fun σ I H z f Q k =>
  (pe_bm PySem.F.plainAttrs_list PySem.F.slot_list_append PySem.F.type_list_append mt_append PE.of (pa_cons PE.of pa_nil hs) hbase hfew hline hs hplain).to (by
    obtain ⟨h1, h2, h3⟩ := z.own i q c0 hδ
    obtain ⟨ds0, rfl⟩ := hq
    refine we_slot hi hv hd hcd h1 ⟨.inl ⟨rfl, ?_⟩, ?_⟩
    · obtain ⟨xs, g1, _⟩ := h3
      exact ⟨xs, SqL.of g1⟩
    · refine we_mono (h σ I H z f (fun vs H1 => ∃ v, vs = [v] ∧ rAppend (.ref q) [v] H1 Q) fun as δ1 vs I1 H1 ⟨d, ds, has, hc, hz, hΦ⟩ y1 ar g => ?_) fun v H1 ⟨u, e, h⟩ => by
        cases e
        exact h
      subst has
      obtain ⟨u, r, rfl, e1, e2⟩ := ar
      cases (show _ = _ from e2)
      have e1 : Rep G.X.K I1 d u := e1
      obtain ⟨g1, g2, g3⟩ := y1.own i q _ hc
      obtain ⟨xs, x1, x2⟩ := g3
      refine ⟨u, rfl, q, xs, u, rfl, rfl, x1, by rw [x2.length]; exact hz, ?_⟩
      have y2 := y1.upd (c' := .lst (ds ++ [d])) (o := .lst (xs ++ [u])) hc ⟨_, upd_same, x2.append (Reps.cons e1 Reps.nil)⟩
      exact k (.val .non) _ .non I1 _ hΦ (y2.cons_val rfl) ((g.trans (Goes.upd y1 hc) y1.sub).sub fun a h => own_cons_val.mp h))
/-- x[i] = e -/
theorem ds_setL {i : Nat} {y : Str} {py ps' : Pos} {q : Addr} {c0 : Cell} {e ix : Expr} (hi : Nth G.X.N i y) (hδ : δ[i]? = some (.own q c0))
    (h : de G e δ fun r δ0 => ∃ d, Fast r d ∧ (∃ c1, δ0[i]? = some (.own q c1)) ∧ dgs G [ix] δ0 fun as δ1 => ∃ k ds m, as = [.v (.int k)] ∧ δ1[i]? = some (.own q (.lst ds)) ∧ ixN ds.length k = some m ∧ Put δ1 i (.own q (.lst (ds.set m d))) E.nx) (hv : Vis G.X.env.scope y)
    (hs : swapsWithSole [.Subscript (.Name y py) ix ps'] e pos.line G.X.env = pure false) (hw : swappedStores [.Subscript (.Name y py) ix ps'] e G.X.env = pure none)
    (h1 : (assignEach [.Subscript (.Name y py) ix ps'] G.X.env).map (·.2) = [assign (.Subscript (.Name y py) ix ps') G.X.env])
    (hsub : ∀ v, assign (.Subscript (.Name y py) ix ps') G.X.env v = (do
      let ov ← holding [v] (eval (.Name y py) G.X.env)
      let iv ← holding [v, ov] (eval ix G.X.env)
      standAt ps'
      holding [v, ov, iv] (setItem ov iv v)
      release [v, ov, iv] []))
    (hd : (y == ("__debug__" : Str)) = false := by decide) (hcd : (y == ("__classdict__" : Str)) = false := by decide) : ds G (.Assign [.Subscript (.Name y py) ix ps'] e pos) δ E := fun σ I H T z f =>
  (ps_asg PE.of (pg_sub PE.of PE.of set_list hsub) hs hw h1).to (h σ I H z f.xc _ fun r δ0 v I1 H1 ⟨d, fs, ⟨c1, hc1⟩, a⟩ y1 g1 => by
    have nr := fs.ne
    cases fs.eq
    obtain ⟨I2, y2, rp, g2⟩ := top_fast y1 g1 nr
    obtain ⟨w1, w2, w3⟩ := y2.own i q c1 hc1
    refine we_slot hi hv hd hcd w1 ?_
    have f2 := f.go g2 y2.sub
    refine we_mono (a σ I2 H1 y2 f2.xc (fun vs H3 => ∃ u, vs = [u] ∧ rSetL (.ref q) u v H3 fun H4 => T.nx σ H4) fun as δ1 vs I3 H3 ⟨k, ds, m, has, hc, hm, hΦ⟩ y3 ar g3 => ?_) fun u H3 ⟨u', e, h⟩ => by
      cases e
      exact h
    subst has
    obtain ⟨u, r', rfl, e1, e2⟩ := ar
    cases (show _ = _ from e1)
    cases (show _ = _ from e2)
    obtain ⟨g1', g2', g3'⟩ := y3.own i q _ hc
    obtain ⟨xs, x1, x2⟩ := g3'
    refine ⟨_, rfl, q, xs, k, m, rfl, rfl, x1, by rw [x2.length]; exact hm, ?_⟩
    have y4 := y3.upd (c' := .lst (ds.set m r.toD)) (o := .lst (xs.set m v)) hc ⟨_, upd_same, x2.set m (Rep.mono g3.le _ _ rp)⟩
    exact f2.nx σ _ I3 _ hΦ y4 (g3.trans (Goes.upd y3 hc) y3.sub))
end
/-! ### built-ins on data -/
section
variable {X : Cx} {Ψ : DV → Prop}
theorem dr_1 {R : List V → Hp → VK → Prop} {x : D} (h : ∀ I H v, Le I H → Rep X.K I x v → ∀ Q : VK, (∀ r v I' H', Ψ r → Res X.K I H I' H' r v → Q v H') → R [v] H Q) : DR X.K R [x] Ψ := fun I H vs s rp Q q => by
  obtain ⟨v, rfl, h1⟩ := reps1 rp
  exact h I H v s h1 Q q
theorem dr_2 {R : List V → Hp → VK → Prop} {x y : D} (h : ∀ I H v w, Le I H → Rep X.K I x v → Rep X.K I y w → ∀ Q : VK, (∀ r v I' H', Ψ r → Res X.K I H I' H' r v → Q v H') → R [v, w] H Q) : DR X.K R [x, y] Ψ := fun I H vs s rp Q q => by
  obtain ⟨v, w, rfl, h1, h2⟩ := reps2 rp
  exact h I H v w s h1 h2 Q q
theorem dr_lenL {as : List D} (h : Ψ (.val (.int as.length))) : DR X.K (wcall X (.builtin "len")) [.lst as] Ψ := dr_1 fun I H v s r Q q => by
  obtain ⟨a, xs, rfl, h1, h2⟩ := r
  refine call_len_seq.to ⟨a, xs, rfl, .inl (SqL.of (s _ _ h1)), ?_⟩
  rw [h2.length]
  exact q _ _ I H h (Res.val s rfl)
theorem dr_lenT {as : List D} (h : Ψ (.val (.int as.length))) : DR X.K (wcall X (.builtin "len")) [.tup as] Ψ := dr_1 fun I H v s r Q q => by
  obtain ⟨a, xs, rfl, h1, h2⟩ := r
  refine call_len_seq.to ⟨a, xs, rfl, .inr (s.sqU h1).t, ?_⟩
  rw [h2.length]
  exact q _ _ I H h (Res.val s rfl)
theorem dr_lenS {z : Str} (hl : z.length ≤ sizeLine) (h : Ψ (.val (.int z.length))) : DR X.K (wcall X (.builtin "len")) [.str z] Ψ := dr_1 fun I H v s r Q q => by
  cases (show _ = _ from r)
  exact call_len_str.to ⟨z, rfl, hl, q _ _ I H h (Res.val s rfl)⟩
theorem dr_int {i : Int} (h : Ψ (.val (.int i))) : DR X.K (wcall X (.type "int")) [.int i] Ψ := dr_1 fun I H v s r Q q => by
  cases (show _ = _ from r)
  exact call_int1.to (.inl ⟨i, rfl, q _ _ I H h (Res.val s rfl)⟩)
theorem dr_intB {b : Bool} (h : Ψ (.val (.int (if b then 1 else 0)))) : DR X.K (wcall X (.type "int")) [.bl b] Ψ := dr_1 fun I H v s r Q q => by
  cases (show _ = _ from r)
  exact call_int1.to (.inr ⟨b, rfl, q _ _ I H h (Res.val s rfl)⟩)
theorem dr_abs {i : Int} (h : Ψ (.val (.int (if i < 0 then -i else i)))) : DR X.K (wcall X (.builtin "abs")) [.int i] Ψ := dr_1 fun I H v s r Q q => by
  cases (show _ = _ from r)
  exact call_abs.to ⟨i, rfl, q _ _ I H h (Res.val s rfl)⟩
theorem dr_listOf {as : List D} {y : D} (hy : y = .lst as ∨ y = .tup as) (h : ∀ p, Ψ (.own p (.lst as))) : DR X.K (wcall X (.type "list")) [y] Ψ := dr_1 fun I H v s r Q q => by
  rcases hy with rfl | rfl
  · obtain ⟨a, xs, rfl, h1, h2⟩ := r
    exact call_list_of.to ⟨a, xs, rfl, .inl (SqL.of (s _ _ h1)), fun p hp => q _ _ _ _ (h p) (Res.own s hp ⟨_, upd_same, h2⟩)⟩
  · obtain ⟨a, xs, rfl, h1, h2⟩ := r
    exact call_list_of.to ⟨a, xs, rfl, .inr (s.sqU h1).t, fun p hp => q _ _ _ _ (h p) (Res.own s hp ⟨_, upd_same, h2⟩)⟩
theorem dr_tupOf {as : List D} {y : D} (hy : y = .lst as ∨ y = .tup as) (h : Ψ (.val (.tup as))) : DR X.K (wcall X (.type "tuple")) [y] Ψ := dr_1 fun I H v s r Q q => by
  rcases hy with rfl | rfl
  · obtain ⟨a, xs, rfl, h1, h2⟩ := r
    exact call_tuple_of.to ⟨a, xs, rfl, .inl ⟨SqL.of (s _ _ h1), fun p hp => q _ _ _ _ h (Res.fast s hp ⟨p, xs, rfl, .inl upd_same, Reps.mono (Le.new (le_none s hp)) _ _ h2⟩)⟩⟩
  · obtain ⟨a, xs, rfl, h1, h2⟩ := r
    exact call_tuple_of.to ⟨a, xs, rfl, .inr ⟨(s.sqU h1).t, q _ _ I H h (Res.val s ⟨a, xs, rfl, h1, h2⟩)⟩⟩
theorem dr_minL {ns : List Int} (hc : X.calm = true) (hn : 0 < ns.length) (h : ∀ m, m ∈ ns → (∀ y, y ∈ ns → m ≤ y) → Ψ (.val (.int m))) : DR X.K (wcall X (.builtin "min")) [.lst (ns.map .int)] Ψ := dr_1 fun I H v s r Q q => by
  obtain ⟨a, xs, rfl, h1, h2⟩ := r
  rw [h2.ints] at h1
  exact (cr_min hc).to ⟨a, ns, rfl, SqL.of (s _ _ h1), hn, fun m hm hl => q _ _ I H (h m hm hl) (Res.val s rfl)⟩
theorem dr_maxL {ns : List Int} (hc : X.calm = true) (hn : 0 < ns.length) (h : ∀ m, m ∈ ns → (∀ y, y ∈ ns → y ≤ m) → Ψ (.val (.int m))) : DR X.K (wcall X (.builtin "max")) [.lst (ns.map .int)] Ψ := dr_1 fun I H v s r Q q => by
  obtain ⟨a, xs, rfl, h1, h2⟩ := r
  rw [h2.ints] at h1
  exact (cr_max hc).to ⟨a, ns, rfl, SqL.of (s _ _ h1), hn, fun m hm hl => q _ _ I H (h m hm hl) (Res.val s rfl)⟩
theorem dr_sum {ns : List Int} (hc : X.calm = true) (h : Ψ (.val (.int ns.sum))) : DR X.K (wcall X (.builtin "sum")) [.lst (ns.map .int)] Ψ := dr_1 fun I H v s r Q q => by
  obtain ⟨a, xs, rfl, h1, h2⟩ := r
  rw [h2.ints] at h1
  exact (cr_sum hc).to ⟨a, ns, rfl, SqL.of (s _ _ h1), q _ _ I H h (Res.val s rfl)⟩
theorem dr_all {bs : List Bool} (hc : X.calm = true) (h : Ψ (.val (.bl (bs.all id)))) : DR X.K (wcall X (.builtin "all")) [.lst (bs.map .bl)] Ψ := dr_1 fun I H v s r Q q => by
  obtain ⟨a, xs, rfl, h1, h2⟩ := r
  rw [h2.bls] at h1
  exact (cr_all hc).to ⟨a, bs, rfl, SqL.of (s _ _ h1), q _ _ I H h (Res.val s rfl)⟩
theorem dr_any {bs : List Bool} (hc : X.calm = true) (h : Ψ (.val (.bl (bs.any id)))) : DR X.K (wcall X (.builtin "any")) [.lst (bs.map .bl)] Ψ := dr_1 fun I H v s r Q q => by
  obtain ⟨a, xs, rfl, h1, h2⟩ := r
  rw [h2.bls] at h1
  exact (cr_any hc).to ⟨a, bs, rfl, SqL.of (s _ _ h1), q _ _ I H h (Res.val s rfl)⟩
/-- the name of a thing's class -/
def tyD : D → Option String
  | .non => some "NoneType"
  | .bl _ => some "bool"
  | .int _ => some "int"
  | .str _ => some "str"
  | .lst _ => some "list"
  | .tup _ => some "tuple"
  | .dic _ _ => some "dict"
  | _ => none
theorem tyD_is {K : PySem.W.Frag} {I H : Hp} {x : D} {v : V} {a : String} (s : Le I H) (h : tyD x = some a) (r : Rep K I x v) : TyX K H v (.type a) := by
  cases x with
  | non => cases (show _ = _ from r); cases h; exact .base .non
  | bl b => cases (show _ = _ from r); cases h; exact .base (.bl b)
  | int i => cases (show _ = _ from r); cases h; exact .base (.int i)
  | str z => cases (show _ = _ from r); cases h; exact .base (.str z)
  | lst ds =>
    obtain ⟨p, xs, rfl, h1, h2⟩ := r
    cases h
    exact .base (.lst (s _ _ h1))
  | tup ds =>
    obtain ⟨p, xs, rfl, h1, h2⟩ := r
    cases h
    rcases h1 with h1 | ⟨o, its, n, g1, g2, _⟩
    · exact .base (.tup (s _ _ h1))
    · exact .kTuple g1 g2
  | dic ks ds =>
    obtain ⟨p, xs, rfl, h1, h2⟩ := r
    cases h
    rcases h1 with h1 | ⟨o, h1⟩
    · exact .base (.dK (s _ _ h1))
    · exact .fDict (s _ _ h1)
  | raw _ => cases h
  | klst _ => cases h
  | obj _ _ _ => cases h
theorem dr_isi {x : D} {a b : String} {r : Bool} (ha : tyD x = some a) (hk : kitB a b = some r) (h : Ψ (.val (.bl r))) : DR X.K (wcall X (.builtin "isinstance")) [x, .raw (.ty b)] Ψ := dr_2 fun I H v w s r1 r2 Q q => by
  cases (show _ = _ from r2)
  exact call_isi.to ⟨v, _, _, _, r, rfl, .ty b, tyD_is s ha r1, kit_ty hk, q _ _ I H h (Res.val s rfl)⟩
/-- isinstance(x, (b, c)) -/
theorem kit2 {K : PySem.W.Frag} {a b c : String} {r1 r2 : Bool} (h1 : kitB a b = some r1) (h2 : kitB a c = some r2) : PySem.W.kitAny K (.type a) [.type b, .type c] = some (r1 || r2) := by
  refine kitAny_cons (kit_ty h1) (fun e => ?_) (fun e => by rw [e]; rfl)
  refine kitAny_cons (kit_ty h2) (fun e' => ?_) (fun e' => by rw [e']; simp)
  rw [e, e']
  exact kitAny_nil
theorem dr_isi2 {x : D} {a b c : String} {r1 r2 : Bool} (ha : tyD x = some a) (h1 : kitB a b = some r1) (h2 : kitB a c = some r2) (h : Ψ (.val (.bl (r1 || r2)))) : DR X.K (wcall X (.builtin "isinstance")) [x, .tup [.raw (.ty b), .raw (.ty c)]] Ψ := dr_2 fun I H v w s e1 e2 Q q => by
  obtain ⟨p, xs, rfl, g1, g2⟩ := e2
  obtain ⟨u, w', rfl, e3, e4⟩ := reps2 g2
  cases (show _ = _ from e3)
  cases (show _ = _ from e4)
  rcases g1 with g1 | ⟨o, its, n, k1, k2, k3, k4, k5⟩
  · exact call_isiT.to ⟨v, p, _, _, [.type b, .type c], _, rfl, s _ _ g1, .cons (.ty b) (.cons (.ty c) .nil), tyD_is s ha e1, kit2 h1 h2, q _ _ I H h (Res.val s rfl)⟩
  · have ei : its.toList = [.type b, .type c] := ClsV.all (.cons (.ty b) (.cons (.ty c) .nil)) k5
    obtain ⟨ocls, od, odat, osl⟩ := o
    have k2 : ocls = .type "tuple" := k2
    have k3 : odat = .seq its n := k3
    subst k2
    subst k3
    refine call_isiK.to ⟨v, p, od, [.type b, .type c], n, osl, _, _, rfl, ?_, tyD_is s ha e1, kit2 h1 h2, q _ _ I H h (Res.val s rfl)⟩
    rw [k1]
    have : its = ([Value.type b, Value.type c] : List Value).toArray := by rw [← ei]
    rw [this]
end
end Zd

namespace Zd
open PySem PySem.Spec L2
open PyProof.Rows (envOfC)
/-! ### small steps for the tactic -/
theorem nx_go {a c d : Env → Prop} {b : DV → Env → Prop} {δ : Env} (h : a δ) : DE.nx ⟨a, b, c, d⟩ δ := h
theorem rt_go {a c d : Env → Prop} {b : DV → Env → Prop} {r : DV} {δ : Env} (h : b r δ) : DE.rt ⟨a, b, c, d⟩ r δ := h
theorem bk_go {a c d : Env → Prop} {b : DV → Env → Prop} {δ : Env} (h : c δ) : DE.bk ⟨a, b, c, d⟩ δ := h
theorem ct_go {a c d : Env → Prop} {b : DV → Env → Prop} {δ : Env} (h : d δ) : DE.ct ⟨a, b, c, d⟩ δ := h
theorem okR_val {d : D} {p : Prop} (h : p) : okR (.val d) p := h
theorem okR_own {q : Addr} {c : Cell} {p : Prop} (h : p) : okR (.own q c) p := h
theorem if_dec {P A B : Prop} [Decidable P] (h1 : P → A) (h2 : ¬ P → B) : if decide P = true then A else B := by
  by_cases h : P
  · rw [if_pos (decide_eq_true h)]; exact h1 h
  · rw [if_neg (by rw [decide_eq_false h]; exact Bool.false_ne_true)]; exact h2 h
theorem if_ndec {P A B : Prop} [Decidable P] (h1 : ¬ P → A) (h2 : P → B) : if (!decide P) = true then A else B := by
  by_cases h : P
  · rw [if_neg (by rw [decide_eq_true h]; decide)]; exact h2 h
  · rw [if_pos (by rw [decide_eq_false h]; rfl)]; exact h1 h
theorem if_bool {b : Bool} {A B : Prop} (h1 : b = true → A) (h2 : b = false → B) : if b = true then A else B := by
  cases b with
  | true => exact iteT (h1 rfl)
  | false => exact iteF (h2 rfl)
theorem if_nbool {b : Bool} {A B : Prop} (h1 : b = false → A) (h2 : b = true → B) : if (!b) = true then A else B := by
  cases b with
  | true => exact iteF (h2 rfl)
  | false => exact iteT (h1 rfl)
theorem if_yes {P A B : Prop} [Decidable P] (h : P) (a : A) : if decide P = true then A else B := if_dec (fun _ => a) (fun n => absurd h n)
theorem if_no {P A B : Prop} [Decidable P] (h : ¬ P) (b : B) : if decide P = true then A else B := if_dec (fun y => absurd y h) (fun _ => b)
theorem if_nyes {P A B : Prop} [Decidable P] (h : ¬ P) (a : A) : if (!decide P) = true then A else B := if_ndec (fun _ => a) (fun n => absurd n h)
theorem if_nno {P A B : Prop} [Decidable P] (h : P) (b : B) : if (!decide P) = true then A else B := if_ndec (fun y => absurd h y) (fun _ => b)
theorem val_ne {d : D} {P : Prop} (h : P) : DV.val d ≠ .no ∧ P := ⟨fun e => DV.noConfusion e, h⟩
theorem own_ne {q : Addr} {c : Cell} {P : Prop} (h : P) : DV.own q c ≠ .no ∧ P := ⟨fun e => DV.noConfusion e, h⟩
theorem asked_v {G : Gx} {R : List V → Hp → VK → Prop} {Φ : DV → Env → Prop} {δ : Env} {as : List Arg} {ds : List D} (h : ArgsD δ as ds false) (k : DR G.X.K R ds fun r => Φ r δ) : Asked G R Φ as δ :=
  ⟨ds, false, h, fun I H vs s r Q q => k I H vs s r Q fun r v I' H' p re => q r v I' H' ⟨fun e => Bool.noConfusion e, p⟩ re⟩
theorem asked_o {G : Gx} {R : List V → Hp → VK → Prop} {Φ : DV → Env → Prop} {δ : Env} {as : List Arg} {ds : List D} (h : ArgsD δ as ds true) (k : DR G.X.K R ds fun r => flatV r = true ∧ Φ r δ) : Asked G R Φ as δ :=
  ⟨ds, true, h, fun I H vs s r Q q => k I H vs s r Q fun r v I' H' p re => q r v I' H' ⟨fun _ => p.1, p.2⟩ re⟩
/-- what is known of a list is said of its items -/
theorem dsb_open {G : Gx} {st : List Stmt} {δ : Env} {E : DE} {i : Nat} {p : Addr} {P : List D → Prop} (hδ : δ[i]? = some (.own p (.ab P))) (h : ∀ ds, P ds → dsb G st (δ.set i (.own p (.lst ds))) E) : dsb G st δ E := fun σ I H T x f => by
  obtain ⟨h1, h2, ds, xs, h3, h4, h5⟩ := x.own i p _ hδ
  have y : EnvR G.X.K I (upd H p (.lst xs)) σ (δ.set i (.own p (.lst ds))) := x.upd hδ ⟨xs, upd_same, h4⟩
  have e : upd H p (.lst xs) = H := by
    funext a
    by_cases ha : a = p
    · rw [ha, upd_same, h3]
    · rw [upd_ne ha]
  rw [e] at y
  exact h ds h5 σ I H T y (f.go ⟨Le.refl _, fun a o h i _ => ⟨h, i⟩, fun a ha => .inl ((own_upd hδ).mp ha)⟩ x.sub)
/-- less is said of a slot's own thing -/
theorem dsb_weak {G : Gx} {st : List Stmt} {δ : Env} {E : DE} {i : Nat} {p : Addr} {c c' : Cell} (hδ : δ[i]? = some (.own p c)) (w : Weak c c') (h : dsb G st (δ.set i (.own p c')) E) : dsb G st δ E := fun σ I H T x f => by
  obtain ⟨h1, h2, h3⟩ := x.own i p _ hδ
  obtain ⟨o, ho⟩ := h3.there
  have e : upd H p o = H := by
    funext a
    by_cases ha : a = p
    · rw [ha, upd_same, ho]
    · rw [upd_ne ha]
  have y : EnvR G.X.K I (upd H p o) σ (δ.set i (.own p c')) := x.upd hδ (by rw [e]; exact w.cell h3)
  rw [e] at y
  exact h σ I H T y (f.go ⟨Le.refl _, fun a o h i _ => ⟨h, i⟩, fun a ha => .inl ((own_upd hδ).mp ha)⟩ x.sub)
/-! ### what may be gone over -/
inductive SeqD : D → Nat → (Nat → D → Prop) → Prop where
  | lst {as : List D} : SeqD (.lst as) as.length (fun i d => as[i]? = some d)
  | klst {as : List D} : SeqD (.klst as) as.length (fun i d => as[i]? = some d)
  | tup {as : List D} : SeqD (.tup as) as.length (fun i d => as[i]? = some d)
  | str {s : Str} : SeqD (.str s) s.cps.size (fun i d => ∃ c, s.cps[i]? = some c ∧ d = .str ⟨#[c]⟩)

section
variable {X : Cx} {tg : Expr} {pins : List (Addr × Obj)} {s : Shared} {σ : L2.St} {H : Hp} {R : It → Hp → Prop}
theorem it_list {a : Addr} {xs : List V} (I1 : Inv X pins σ H s) (h : SqL X.K H a xs) (q : R (Itl X.K a) H) : wpAny (model X.prog X.w) X.A (pyIter (.ref a)) (PIE X pins σ tg R) X.xe s := by
  obtain ⟨its, rv, p, hz⟩ := I1.list h
  refine wpAny_pyIter_list p.isList ?_
  refine ⟨s.heap.objs.size, [s.heap.objs.size], _, _, H, rfl, I1.kept (t' := s.toks) fun b o e => Heap.get?_push_of_some _ e, turn_list a _, ⟨_, Heap.get?_push_size _ rfl, rfl, rfl⟩, fun b hb => ?_, q⟩
  have e : b = s.heap.objs.size := by simpa using hb
  subst e
  exact I1.fpOk (Nat.le_refl _) (I1.hok.fresh (Nat.le_refl _))
theorem it_tup {a : Addr} {xs : List V} (I1 : Inv X pins σ H s) (h : SqT X.K H a xs) (q : R (Itt X.K a) H) : wpAny (model X.prog X.w) X.A (pyIter (.ref a)) (PIE X pins σ tg R) X.xe s := by
  obtain ⟨its, rv, p, hz⟩ := I1.tuple h
  refine wpAny_pyIter_tuple (show s.heap.IsTuple a its.toArray from p) ?_
  refine ⟨s.heap.objs.size, [s.heap.objs.size], _, _, H, rfl, I1.kept (t' := s.toks) fun b o e => Heap.get?_push_of_some _ e, turn_tuple a _, ⟨_, Heap.get?_push_size _ rfl, rfl, rfl⟩, fun b hb => ?_, q⟩
  have e : b = s.heap.objs.size := by simpa using hb
  subst e
  exact I1.fpOk (Nat.le_refl _) (I1.hok.fresh (Nat.le_refl _))
theorem it_str {x : Str} {t : Tok} (I1 : Inv X pins σ H s) (q : R (Its x) H) : wpAny (model X.prog X.w) X.A (pyIter (.str x t)) (PIE X pins σ tg R) X.xe s := by
  cases ha : x.cps.all (· < 128)
  · exact wpAny_pyIter_wide ha (pi_one (tk := s.toks) I1 _ (turn_str _ x t "str_iterator" (.inr rfl)) ⟨_, Heap.get?_push_size _ rfl, rfl, rfl⟩ q)
  · exact wpAny_pyIter_ascii ha (pi_one (tk := s.toks) I1 _ (turn_str _ x t "str_ascii_iterator" (.inl rfl)) ⟨_, Heap.get?_push_size _ rfl, rfl, rfl⟩ q)
end
section
variable {G : Gx} {δ : Env} {pos : Pos}
theorem di_seq {tg l : Expr} {Φ : Nat → (Nat → D → Prop) → Env → Prop} (h : de G l δ fun r δ1 => ∃ d, Fast r d ∧ ∃ n it, SeqD d n it ∧ Φ n it δ1) : di G tg l δ Φ := fun σ I H x f R q pins s Iv =>
  thn (h σ I H x f (fun v H1 => ∃ I2 d n it δ1, SeqD d n it ∧ Rep G.X.K I2 d v ∧ Φ n it δ1 ∧ EnvR G.X.K I2 H1 σ δ1 ∧ Goes (Own δ) (Own δ1) I H I2 H1) (fun r δ1 v I1 H1 ⟨d, fs, n, it, sq, hΦ⟩ y g => by
    have nr := fs.ne
    cases fs.eq
    obtain ⟨I2, y2, rp, g2⟩ := top_fast y g nr
    exact ⟨I2, _, n, it, δ1, sq, rp, hΦ, y2, g2⟩) pins s Iv) fun u s1 ⟨v, H1, I1, rv, I2, d, n, it, δ1, sq, rp, hΦ, y2, g2⟩ => by
    have list : ∀ {as : List D} {a : Addr} {xs : List V}, (∀ I' H', Le I2 I' → Le I' H' → SqL G.X.K H' a xs) → Reps G.X.K I2 as xs → Yields G.X.K I2 (Itl G.X.K a) as.length (fun i d => as[i]? = some d) := fun {as a xs} h1 h2 i I' H' l1 l2 => by
      have hx := h1 I' H' l1 l2
      refine ⟨fun hi => ?_, fun hi => ⟨xs, hx, by rw [h2.length]; omega⟩⟩
      obtain ⟨w, e1, e2⟩ := h2.get (List.getElem?_eq_getElem hi)
      refine ⟨⟨xs, w, hx, e1⟩, fun z H2 ⟨e3, e4⟩ => ?_⟩
      have := e4 xs hx
      rw [e1] at this
      cases this
      rw [e3]
      exact ⟨I', _, List.getElem?_eq_getElem hi, Res.val l2 (Rep.mono l1 _ _ e2)⟩
    cases sq with
    | lst =>
      obtain ⟨a, xs, rfl, h1, h2⟩ := rp
      cases (show _ = _ from rv)
      exact it_list I1 (SqL.of (y2.sub _ _ h1)) (q _ _ δ1 _ I2 H1 hΦ y2 g2 (list (fun I' H' l1 l2 => SqL.of (l2 _ _ (l1 _ _ h1))) h2))
    | klst =>
      obtain ⟨a, xs, rfl, h1, h2⟩ := rp
      cases (show _ = _ from rv)
      exact it_list I1 (y2.sub.sqL h1) (q _ _ δ1 _ I2 H1 hΦ y2 g2 (list (fun I' H' l1 l2 => l2.sqL (l1.sqL h1)) h2))
    | tup =>
      obtain ⟨a, xs, rfl, h1, h2⟩ := rp
      cases (show _ = _ from rv)
      refine it_tup I1 (y2.sub.sqU h1).t (q _ _ δ1 _ I2 H1 hΦ y2 g2 fun i I' H' l1 l2 => ?_)
      have hx := (l2.sqU (l1.sqU h1)).t
      refine ⟨fun hi => ?_, fun hi => ⟨xs, hx, by rw [h2.length]; omega⟩⟩
      obtain ⟨w, e1, e2⟩ := h2.get (List.getElem?_eq_getElem hi)
      refine ⟨⟨xs, w, hx, e1⟩, fun z H2 ⟨e3, e4⟩ => ?_⟩
      have := e4 xs hx
      rw [e1] at this
      cases this
      rw [e3]
      exact ⟨I', _, List.getElem?_eq_getElem hi, Res.val l2 (Rep.mono l1 _ _ e2)⟩
    | str =>
      cases (show _ = _ from rp)
      obtain ⟨t, rfl⟩ := rv
      refine it_str I1 (q _ _ δ1 _ I2 H1 hΦ y2 g2 fun i I' H' l1 l2 => ⟨fun hi => ⟨hi, fun z H2 ⟨e3, c, e4, e5⟩ => ?_⟩, fun hi => Nat.le_of_eq hi.symm⟩)
      rw [e3, e5]
      exact ⟨I', .str ⟨#[c]⟩, ⟨c, e4, rfl⟩, Res.val l2 rfl⟩
/-- for i, x in enumerate(a list) -/
theorem di_enum {a : Expr} {p tpos : Pos} {elts : List Expr} {kk : Nat} {Φ : Nat → (Nat → D → Prop) → Env → Prop} (h : dgs G [a] δ fun as δ1 => ∃ ds, as = [.v (.lst ds)] ∧ Φ ds.length (fun i d => ∃ x, ds[i]? = some x ∧ d = .tup [.int (i : Int), x]) δ1)
    (hg : Gl G.X "enumerate") (hm : G.X.mg "enumerate" = none) (ha : PA G.X [a] (wes G.X [a])) (hs : starEach [a] G.X.env = [(false, eval a G.X.env)] := by rfl) : di G (.Tuple elts kk tpos) (.Call (.Name "enumerate" p) [a] [] pos) δ Φ := fun σ I H x f R q =>
  (pi_enum hg hm ha hs).to (h σ I H x f _ fun as δ1 vs I1 H1 ⟨ds, e, hΦ⟩ y ar g => by
    subst e
    obtain ⟨u, r, rfl, e1, e2⟩ := ar
    cases (show _ = _ from e2)
    obtain ⟨b, xs, rfl, h1, h2⟩ := e1
    refine ⟨b, xs, rfl, SqL.of (y.sub _ _ h1), q _ _ δ1 _ I1 H1 hΦ y g fun i I' H' l1 l2 => ?_⟩
    have hx := SqL.of (K := G.X.K) (l2 _ _ (l1 _ _ h1))
    refine ⟨fun hi => ?_, fun hi => ⟨xs, hx, by rw [h2.length]; omega⟩⟩
    obtain ⟨w, e1, e2⟩ := h2.get (List.getElem?_eq_getElem hi)
    refine ⟨⟨xs, w, hx, e1⟩, fun z H2 ⟨T, x, e3, e4, e5, e6⟩ => ?_⟩
    have := e6 xs hx
    rw [e1] at this
    cases this
    rw [e3, e5]
    have nI := le_none l2 e4
    refine ⟨_, .tup [.int (i : Int), _], ⟨_, List.getElem?_eq_getElem hi, rfl⟩, Res.fast l2 e4 ⟨T, _, rfl, .inl upd_same, ?_⟩⟩
    exact Reps.cons rfl (Reps.cons (Rep.mono (l1.trans (Le.new nI)) _ _ e2) Reps.nil))
end
/-! ### numbers -/
theorem intBits_nn {i : Int} (h : 0 ≤ i) : (0 : Int) ≤ (Builtin.Int.intBits i : Nat) := Int.natCast_nonneg _
section
variable {G : Gx} {δ : Env} {Φ : DV → Env → Prop} {pos : Pos}
def wbits : V → Hp → VK → Prop := fun x H Q => ∃ i, x = .int i ∧ Q (.int (Builtin.Int.intBits i : Nat)) H
theorem de_bits {o : Expr} {apos : Pos} (h : dgs G [o] δ (Asked G (R1l wbits) Φ)) (hbase : attributeBase o "bit_length" G.X.env (eval o G.X.env) = eval o G.X.env) (hline : (apos.endLine == pos.line) = true) : de G (.Call (.Attribute o "bit_length" apos) [] [] pos) δ Φ :=
  de_R (fun σ H Q h => (pe_bits PE.of hbase hline).to (show we G.X o σ H fun x H1 => wbits x H1 Q from wes1 h)) h
theorem dr_bits {X : Cx} {Ψ : DV → Prop} {i : Int} (h : Ψ (.val (.int (Builtin.Int.intBits i : Nat)))) : DR X.K (R1l wbits) [.int i] Ψ := dr_R1 fun I H v s r1 Q q => by
  cases (show _ = _ from r1)
  exact ⟨i, rfl, q _ _ I H h (Res.val s rfl)⟩
theorem dr_odd {X : Cx} {Ψ : DV → Prop} {i : Int} (h0 : 0 ≤ i) (h : Ψ (.val (.int (i % 2)))) : DR X.K (R2l (wop X (binaryOp .BitAnd))) [.int i, .int 1] Ψ := dr_R2 fun I H v w s r1 r2 Q q => by
  cases (show _ = _ from r1)
  cases (show _ = _ from r2)
  obtain ⟨n, rfl⟩ : ∃ n : Nat, i = (n : Int) := ⟨i.toNat, (Int.toNat_of_nonneg h0).symm⟩
  refine op_odd.to ⟨n, rfl, rfl, q (.val (.int ((n % 2 : Nat) : Int))) _ I H ?_ (Res.val s rfl)⟩
  have e : ((n % 2 : Nat) : Int) = (n : Int) % 2 := by omega
  rw [e]
  exact h
end
/-! ### defs to be called -/
structure CalP (P : Program) (w : World) (K : PySem.W.Frag) (mg : Str → Option Value) (base : Heap) (j : Nat) (x : Str) (n : Nat) (S : PSp) : Prop where
  ex : ∃ f fd ps, FnOk P w K mg base (L2.CX P w) j f fd ps (spP K n S) ∧ ps.length = n ∧ mg x = some (.ref f) ∧ PySem.W.keepIn K (.ref f) = true ∧ Binds K fd ps []
structure CalM (P : Program) (w : World) (K : PySem.W.Frag) (mg : Str → Option Value) (base : Heap) (j : Nat) (x : Str) (n : Nat) (S : MSp) : Prop where
  ex : ∃ f fd ps, FnOk P w K mg base (L2.CX P w) j f fd ps (spM K n S) ∧ ps.length = n ∧ mg x = some (.ref f) ∧ PySem.W.keepIn K (.ref f) = true ∧ Binds K fd ps []
/-- values alone -/
inductive AllV : List Arg → List D → Prop where
  | nil : AllV [] []
  | v {d : D} {as : List Arg} {ds : List D} : AllV as ds → AllV (.v d :: as) (d :: ds)
theorem AllV.eq {as : List Arg} {ds : List D} (h : AllV as ds) : as = ds.map Arg.v := by
  induction h with
  | nil => rfl
  | v _ ih => rw [ih]; rfl
section
variable {G : Gx} {δ : Env} {Φ : DV → Env → Prop} {pos : Pos} {k j n : Nat} {x : Str} {p : Pos}
theorem de_calP {S : PSp} {e : Expr} {es : List Expr} (C : CalP G.X.prog G.X.w G.X.K G.X.mg G.X.base j x n S) (hr : Room k G.X.A) (hj : j ≤ k) (tk : Takes G.X G.W)
    (h : dgs G (e :: es) δ fun as δ1 => ∃ ds b, ArgsD δ1 as ds b ∧ ds.length = n ∧ S ds (fun r => (b = true → flatV r = true) ∧ Φ r δ1) (fun x => (b = true → flatX x = true) ∧ G.Ξ x δ1)) (hg : Gl G.X x) (ha : PA G.X (e :: es) (wes G.X (e :: es)))
    (hdb : (x == ("__debug__" : Str)) = false := by decide) (he : starEach (e :: es) G.X.env = (false, eval e G.X.env) :: starEach es G.X.env := by rfl) (hpl : (backTo pos (starEach es G.X.env)).any (·.1) = false := by rfl) :
    de G (.Call (.Name x p) (e :: es) [] pos) δ Φ := by
  obtain ⟨f, fd, ps, F, hl, hm, hk, hb⟩ := C.ex
  subst hl
  exact de_callP F hm hk hb h hr hj tk hg ha hdb he hpl
theorem de_calM {S : MSp} {i : Nat} {y : Str} {py : Pos} {es : List Expr} {q : Addr} {c0 : Cell} (C : CalM G.X.prog G.X.w G.X.K G.X.mg G.X.base j x n S) (hr : Room k G.X.A) (hj : j ≤ k) (tk : Takes G.X G.W) (hi : Nth G.X.N i y) (hδ : δ[i]? = some (.own q c0))
    (h : dgs G es δ fun as δ1 => ∃ c ds, δ1[i]? = some (.own q c) ∧ AllV as ds ∧ ds.length + 1 = n ∧ S c ds (fun r c' => okR r (Put δ1 i (.own q c') (Φ r))) (fun x c' => Put δ1 i (.own q c') (G.Ξ x))) (hg : Gl G.X x) (hv : Vis G.X.env.scope y) (ha : PA G.X (.Name y py :: es) (wes G.X (.Name y py :: es)))
    (hd : (y == ("__debug__" : Str)) = false := by decide) (hcd : (y == ("__classdict__" : Str)) = false := by decide)
    (hdb : (x == ("__debug__" : Str)) = false := by decide) (he : starEach (.Name y py :: es) G.X.env = (false, eval (.Name y py) G.X.env) :: starEach es G.X.env := by rfl) (hpl : (backTo pos (starEach es G.X.env)).any (·.1) = false := by rfl) :
    de G (.Call (.Name x p) (.Name y py :: es) [] pos) δ Φ := by
  obtain ⟨f, fd, ps, F, hl, hm, hk, hb⟩ := C.ex
  subst hl
  exact de_callM F hm hk hb hi hδ (fun σ I H x f Q q => h σ I H x f Q fun as δ' vs I' H' ⟨c, ds, h1, h2, h3⟩ => q as δ' vs I' H' ⟨c, ds, h1, h2.eq, h3⟩) hr hj tk hg hv ha hd hcd hdb he hpl
end
end Zd

namespace Zd
open PySem PySem.Spec L2
open PyProof.Rows (envOfC)
/-! ### comprehensions over one name -/
section
variable {G : Gx} {δ : Env} {E : DE} {Φ : DV → Env → Prop} {pos : Pos}
/-- in every block of a comprehension -/
def inBlk (G : Gx) (scope : Scope) (k : Gx → Prop) : Prop := ∀ s H C cl fp, k (G.blk scope s H C cl fp)
/-- the block's own name may be stored -/
def BlkName (G : Gx) (scope : Scope) (x : Str) : Prop := ∀ (s : Shared) (H : Hp) (C : Addr) (cl : List (Str × Addr)) (fp : List Addr), Loc (G.blk scope s H C cl fp).X.env.scope x ∧ ((G.blk scope s H C cl fp).X.fn x = true ∨ (G.blk scope s H C cl fp).X.env.scope.names.lookup x = some .local)
/-- one turn: the item's name is set, the tests, the element -/
def LcTurn (G : Gx) (elt : Expr) (ifs : List Expr) (scope : Scope) (j : Nat) (d : D) (δb : Env) (yes : D → Env → Prop) (no : Env → Prop) : Prop :=
  Put δb j (.val d) fun δ3 => dts G scope ifs δ3 fun b δ4 => if b = true then inBlk G scope fun G' => de G' elt δ4 fun r δ5 => ∃ e, Fast r e ∧ yes e (wipeE δ5 [j]) else no (wipeE δ4 [j])
theorem lct0 {elt : Expr} {scope : Scope} {j : Nat} {d : D} {δb : Env} {yes : D → Env → Prop} {no : Env → Prop} (h : Put δb j (.val d) fun δ3 => ∀ s H C cl fp, de (G.blk scope s H C cl fp) elt δ3 fun r δ5 => ∃ e, Fast r e ∧ yes e (wipeE δ5 [j])) : LcTurn G elt [] scope j d δb yes no :=
  iteT (B := no (wipeE (δb.set j (.val d)) [j])) h
theorem lct1 {elt c : Expr} {scope : Scope} {j : Nat} {d : D} {δb : Env} {yes : D → Env → Prop} {no : Env → Prop} (h : Put δb j (.val d) fun δ3 => ∀ s H C cl fp, dt (G.blk scope s H C cl fp) c δ3 fun b δ4 => if b = true then (∀ s H C cl fp, de (G.blk scope s H C cl fp) elt δ4 fun r δ5 => ∃ e, Fast r e ∧ yes e (wipeE δ5 [j])) else no (wipeE δ4 [j])) : LcTurn G elt [c] scope j d δb yes no := h
theorem lc_step {elt : Expr} {x : Str} {px : Pos} {ifs : List Expr} {scope : Scope} {j n : Nat} {it : Nat → D → Prop} {δ1 : Env} {Ψ : List D → Env → Prop} {Pv : Nat → List D → Env → Prop} (hi : Nth G.X.N j x) (hN : G.X.N.Nodup) (hb : BlkName G scope x) (hz : n < sizeLine)
    (h0 : Pv 0 [] (wipeE δ1 [j])) (step : ∀ i d acc δ2, i < n → it i d → Pv i acc δ2 → acc.length ≤ i → LcTurn G elt ifs scope j d δ2 (fun e δ3 => Pv (i + 1) (acc ++ [e]) δ3) (fun δ3 => Pv (i + 1) acc δ3)) (done : ∀ acc δ2, Pv n acc δ2 → Ψ acc δ2) :
    LcOk G elt (.Name x px) ifs scope [j] n it δ1 Ψ (fun i acc δ2 => acc.length ≤ i ∧ Pv i acc δ2) := by
  refine ⟨⟨Nat.le_refl _, h0⟩, fun i d acc δ2 hn hd ⟨hl, hp⟩ s H C cl fp => ⟨[j], fun _ h => h, ?_⟩, fun acc δ2 ⟨_, h⟩ => done acc δ2 h⟩
  obtain ⟨b1, b2⟩ := hb s H C cl fp
  refine dgt_name hi ?_ hN b1 b2
  have h := step i d acc δ2 hn hd hp hl
  unfold LcTurn at h
  unfold Put at h ⊢
  have fix : ∀ b δ4, (if b = true then inBlk G scope fun G' => de G' elt δ4 fun r δ5 => ∃ e, Fast r e ∧ Pv (i + 1) (acc ++ [e]) (wipeE δ5 [j]) else Pv (i + 1) acc (wipeE δ4 [j])) →
      (if b = true then ∀ s H C cl fp, de (G.blk scope s H C cl fp) elt δ4 fun r δ5 => ∃ e, Fast r e ∧ acc.length < sizeLine ∧ (acc ++ [e]).length ≤ i + 1 ∧ Pv (i + 1) (acc ++ [e]) (wipeE δ5 [j]) else acc.length ≤ i + 1 ∧ Pv (i + 1) acc (wipeE δ4 [j])) := fun b δ4 h => by
    cases b with
    | true =>
      rw [if_pos rfl] at h ⊢
      exact fun s H C cl fp => de_mono (h s H C cl fp) fun r δ5 ⟨e, fs, p⟩ => ⟨e, fs, by omega, by rw [List.length_append]; simpa using hl, p⟩
    | false =>
      rw [if_neg Bool.false_ne_true] at h ⊢
      exact ⟨by omega, h⟩
  cases ifs with
  | nil => exact fix true _ h
  | cons c cs =>
    cases cs with
    | nil => exact fun s H C cl fp => dt_mono (h s H C cl fp) fix
    | cons c' cs => exact h
/-- what a comprehension gives: F tells of each turn what it gives, if anything -/
structure LcF (G : Gx) (elt : Expr) (ifs : List Expr) (scope : Scope) (j n : Nat) (it : Nat → D → Prop) (δb : Env) (F : Nat → Option D) : Prop where
  sz : n < sizeLine
  step : ∀ i d, i < n → it i d → LcTurn G elt ifs scope j d δb (fun e δ3 => F i = some e ∧ δ3 = δb) (fun δ3 => F i = none ∧ δ3 = δb)
theorem fm_succ {F : Nat → Option D} {n : Nat} : (List.range (n + 1)).filterMap F = (List.range n).filterMap F ++ (F n).toList := by
  rw [List.range_succ, List.filterMap_append]
  cases h : F n <;> simp [h]
theorem lcF_ok {elt : Expr} {x : Str} {px : Pos} {ifs : List Expr} {scope : Scope} {j n : Nat} {it : Nat → D → Prop} {δ1 : Env} {Ψ : List D → Env → Prop} {F : Nat → Option D} (hi : Nth G.X.N j x) (hN : G.X.N.Nodup) (hb : BlkName G scope x)
    (k : LcF G elt ifs scope j n it (wipeE δ1 [j]) F) (h : Ψ ((List.range n).filterMap F) (wipeE δ1 [j])) : ∃ Pv, LcOk G elt (.Name x px) ifs scope [j] n it δ1 Ψ Pv := by
  refine ⟨_, lc_step hi hN hb k.sz (Pv := fun i acc δ2 => acc = (List.range i).filterMap F ∧ δ2 = wipeE δ1 [j]) ⟨rfl, rfl⟩ (fun i d acc δ2 hn hd ⟨ha, he⟩ _ => ?_) (fun acc δ2 ⟨ha, he⟩ => by rw [ha, he]; exact h)⟩
  rw [he]
  have s := k.step i d hn hd
  unfold LcTurn Put at s ⊢
  have fix : ∀ b δ4, (if b = true then inBlk G scope fun G' => de G' elt δ4 fun r δ5 => ∃ e, Fast r e ∧ F i = some e ∧ wipeE δ5 [j] = wipeE δ1 [j] else F i = none ∧ wipeE δ4 [j] = wipeE δ1 [j]) →
      (if b = true then inBlk G scope fun G' => de G' elt δ4 fun r δ5 => ∃ e, Fast r e ∧ acc ++ [e] = (List.range (i + 1)).filterMap F ∧ wipeE δ5 [j] = wipeE δ1 [j] else acc = (List.range (i + 1)).filterMap F ∧ wipeE δ4 [j] = wipeE δ1 [j]) := fun b δ4 h => by
    cases b with
    | true =>
      rw [if_pos rfl] at h ⊢
      exact fun s H C cl fp => de_mono (h s H C cl fp) fun r δ5 ⟨e, fs, p, q⟩ => ⟨e, fs, by rw [fm_succ, p, ha]; rfl, q⟩
    | false =>
      rw [if_neg Bool.false_ne_true] at h ⊢
      exact ⟨by rw [fm_succ, h.1, ha]; simp, h.2⟩
  cases ifs with
  | nil => exact fix true _ s
  | cons c cs =>
    cases cs with
    | nil => exact fun s' H C cl fp => dt_mono (s s' H C cl fp) fix
    | cons c' cs => exact s
/-- .. of which a property is known -/
structure LcP (G : Gx) (elt : Expr) (scope : Scope) (j n : Nat) (it : Nat → D → Prop) (δb : Env) (R : Nat → D → Prop) : Prop where
  sz : n < sizeLine
  step : ∀ i d, i < n → it i d → LcTurn G elt [] scope j d δb (fun e δ3 => R i e ∧ δ3 = δb) (fun _ => False)
theorem lcP_ok {elt : Expr} {x : Str} {px : Pos} {scope : Scope} {j n : Nat} {it : Nat → D → Prop} {δ1 : Env} {Ψ : List D → Env → Prop} {R : Nat → D → Prop} (hi : Nth G.X.N j x) (hN : G.X.N.Nodup) (hb : BlkName G scope x)
    (k : LcP G elt scope j n it (wipeE δ1 [j]) R) (h : ∀ acc, acc.length = n → (∀ i e, acc[i]? = some e → R i e) → Ψ acc (wipeE δ1 [j])) : ∃ Pv, LcOk G elt (.Name x px) [] scope [j] n it δ1 Ψ Pv := by
  refine ⟨_, lc_step hi hN hb k.sz (Pv := fun i acc δ2 => (acc.length = i ∧ ∀ k e, acc[k]? = some e → R k e) ∧ δ2 = wipeE δ1 [j]) ⟨⟨rfl, fun _ _ e => by simp at e⟩, rfl⟩ (fun i d acc δ2 hn hd ⟨⟨ha, hr⟩, he⟩ _ => ?_) (fun acc δ2 ⟨⟨ha, hr⟩, he⟩ => by rw [he]; exact h acc ha hr)⟩
  rw [he]
  have s := k.step i d hn hd
  unfold LcTurn Put at s ⊢
  have s' := ifT (B := False) s
  refine iteT (B := (acc.length = i + 1 ∧ ∀ (k : Nat) (e : D), acc[k]? = some e → R k e) ∧ wipeE (List.set (wipeE δ1 [j]) j (DV.val d)) [j] = wipeE δ1 [j]) (fun s0 H C cl fp => de_mono (s' s0 H C cl fp) fun r δ5 ⟨e, fs, p, q⟩ => ⟨e, fs, ⟨by simp [ha], fun k e' hk => ?_⟩, q⟩)
  by_cases hki : k < acc.length
  · rw [List.getElem?_append_left hki] at hk
    exact hr k e' hk
  · rw [List.getElem?_append_right (by omega)] at hk
    have : k - acc.length = 0 := by
      have := (List.getElem?_eq_some_iff.mp hk).1
      simp at this
      omega
    rw [this] at hk
    simp at hk
    have hk' : k = i := by omega
    rw [hk', ← hk]
    exact p
/-- a slot's wiped form, written out -/
inductive WipeAt : Env → Nat → Env → Prop where
  | z {x : DV} {δ : Env} : WipeAt (x :: δ) 0 (.no :: δ)
  | s {x : DV} {δ δ' : Env} {i : Nat} : WipeAt δ i δ' → WipeAt (x :: δ) (i + 1) (x :: δ')
theorem WipeAt.eq {δ δ' : Env} {i : Nat} (h : WipeAt δ i δ') : wipeE δ [i] = δ' := by
  show δ.set i .no = δ'
  induction h with
  | z => rfl
  | s _ ih => rw [List.set_cons_succ, ih]
theorem de_lcF {elt iter : Expr} {x : Str} {px : Pos} {ifs : List Expr} {scope : Scope} {j : Nat} {tt : TT} (hi : Nth G.X.N j x) (ht : Tests G.X scope ifs tt)
    (h : di G (.Name x px) iter δ fun n it δ1 => ∃ δb, WipeAt δ1 j δb ∧ ∃ F, LcF G elt ifs scope j n it δb F ∧ ∀ p, Φ (.own p (.lst ((List.range n).filterMap F))) δb) (hb : BlkName G scope x) (ok : blkC G.X.N G.X.env.scope scope [(x, j)] = true) (hc : G.X.calm = true) (hN : G.X.N.Nodup)
    (hs : ∀ x, foldedSetIterable iter G.X.env x = pure x) : de G (.ListComp elt [⟨.Name x px, iter, ifs, 0⟩] scope pos) δ Φ :=
  de_lc (own := [(x, j)]) ht (fun σ I H y f R q => h σ I H y f R fun n it δ' J I' H' ⟨δb, wz, F, k, g⟩ => q n it δ' J I' H' (by cases wz.eq; exact lcF_ok hi hN hb k g)) hc hN (blkOk_by ok) hs
theorem de_lcP {elt iter : Expr} {x : Str} {px : Pos} {scope : Scope} {j : Nat} (hi : Nth G.X.N j x)
    (h : di G (.Name x px) iter δ fun n it δ1 => ∃ δb, WipeAt δ1 j δb ∧ ∃ R, LcP G elt scope j n it δb R ∧ ∀ acc, acc.length = n → (∀ i e, acc[i]? = some e → R i e) → ∀ p, Φ (.own p (.lst acc)) δb) (hb : BlkName G scope x) (ok : blkC G.X.N G.X.env.scope scope [(x, j)] = true) (hc : G.X.calm = true) (hN : G.X.N.Nodup)
    (hs : ∀ x, foldedSetIterable iter G.X.env x = pure x) : de G (.ListComp elt [⟨.Name x px, iter, [], 0⟩] scope pos) δ Φ :=
  de_lc (own := [(x, j)]) .nil (fun σ I H y f R q => h σ I H y f R fun n it δ' J I' H' ⟨δb, wz, P, k, g⟩ => q n it δ' J I' H' (by cases wz.eq; exact lcP_ok hi hN hb k g)) hc hN (blkOk_by ok) hs
theorem ds_asgLcF {i : Nat} {y : Str} {py spos : Pos} {elt iter : Expr} {x : Str} {px : Pos} {ifs : List Expr} {scope : Scope} {j : Nat} {tt : TT} (hy : Nth G.X.N i y) (hi : Nth G.X.N j x) (ht : Tests G.X scope ifs tt)
    (h : di G (.Name x px) iter δ fun n it δ1 => ∃ δb, WipeAt δ1 j δb ∧ ∃ F, LcF G elt ifs scope j n it δb F ∧ ∀ p, Put δb i (.own p (.lst ((List.range n).filterMap F))) E.nx) (hb : BlkName G scope x) (ok : blkC G.X.N G.X.env.scope scope [(x, j)] = true) (hc : G.X.calm = true) (hN : G.X.N.Nodup)
    (hyl : G.X.env.scope.names.lookup y = some .local) (hsw : swapsWith (.ListComp elt [⟨.Name x px, iter, ifs, 0⟩] scope pos) (some (.Name y py)) spos.line G.X.env = pure true) (hs : ∀ x, foldedSetIterable iter G.X.env x = pure x) :
    ds G (.Assign [.Name y py] (.ListComp elt [⟨.Name x px, iter, ifs, 0⟩] scope pos) spos) δ E :=
  ds_asgLc (own := [(x, j)]) hy ht (fun σ I H y f R q => h σ I H y f R fun n it δ' J I' H' ⟨δb, wz, F, k, g⟩ => q n it δ' J I' H' (by cases wz.eq; exact lcF_ok hi hN hb k g)) hc hN hyl (blkOk_by ok) hsw hs
theorem ds_asgLcP {i : Nat} {y : Str} {py spos : Pos} {elt iter : Expr} {x : Str} {px : Pos} {scope : Scope} {j : Nat} (hy : Nth G.X.N i y) (hi : Nth G.X.N j x)
    (h : di G (.Name x px) iter δ fun n it δ1 => ∃ δb, WipeAt δ1 j δb ∧ ∃ R, LcP G elt scope j n it δb R ∧ ∀ acc, acc.length = n → (∀ i e, acc[i]? = some e → R i e) → ∀ p, Put δb i (.own p (.lst acc)) E.nx) (hb : BlkName G scope x) (ok : blkC G.X.N G.X.env.scope scope [(x, j)] = true) (hc : G.X.calm = true) (hN : G.X.N.Nodup)
    (hyl : G.X.env.scope.names.lookup y = some .local) (hsw : swapsWith (.ListComp elt [⟨.Name x px, iter, [], 0⟩] scope pos) (some (.Name y py)) spos.line G.X.env = pure true) (hs : ∀ x, foldedSetIterable iter G.X.env x = pure x) :
    ds G (.Assign [.Name y py] (.ListComp elt [⟨.Name x px, iter, [], 0⟩] scope pos) spos) δ E :=
  ds_asgLc (own := [(x, j)]) hy .nil (fun σ I H y f R q => h σ I H y f R fun n it δ' J I' H' ⟨δb, wz, P, k, g⟩ => q n it δ' J I' H' (by cases wz.eq; exact lcP_ok hi hN hb k g)) hc hN hyl (blkOk_by ok) hsw hs
end
/-! lists by their turns -/
theorem fm_all {F : Nat → Option D} {f : Nat → D} {n : Nat} (h : ∀ i, i < n → F i = some (f i)) : (List.range n).filterMap F = (List.range n).map f := by
  induction n with
  | zero => rfl
  | succ n ih =>
    rw [fm_succ, ih fun i hi => h i (by omega), h n (by omega), List.range_succ, List.map_append]
    rfl
theorem fm_list {α : Type} {F : Nat → Option D} {g : α → Option D} {as : List α} (h : ∀ (i : Nat) a, as[i]? = some a → F i = g a) : (List.range as.length).filterMap F = as.filterMap g := by
  induction as generalizing F with
  | nil => rfl
  | cons a as ih =>
    rw [List.length_cons, List.range_succ_eq_map, List.filterMap_cons, List.filterMap_map, List.filterMap_cons]
    rw [h 0 a rfl, ih (F := F ∘ Nat.succ) fun i b hb => h (i + 1) b (by simpa using hb)]
theorem fm_map {α : Type} {F : Nat → Option D} {g : α → D} {as : List α} (h : ∀ (i : Nat) a, as[i]? = some a → F i = some (g a)) : (List.range as.length).filterMap F = as.map g := by
  rw [fm_list (g := fun a => some (g a)) h]
  clear h
  induction as with
  | nil => rfl
  | cons a as ih =>
    rw [List.filterMap_cons, List.map_cons, ih]
theorem fm_filter {α : Type} {F : Nat → Option D} {g : α → D} {t : α → Bool} {as : List α} (h : ∀ (i : Nat) a, as[i]? = some a → F i = if t a then some (g a) else none) : (List.range as.length).filterMap F = (as.filter t).map g := by
  rw [fm_list (g := fun a => if t a then some (g a) else none) h]
  clear h
  induction as with
  | nil => rfl
  | cons a as ih =>
    rw [List.filterMap_cons, List.filter_cons]
    cases e : t a with
    | true => simp [ih]
    | false => simp [ih]
end Zd

namespace Zd
open PySem PySem.Spec L2
open PyProof.Rows (envOfC)
section
variable {G : Gx} {δ : Env} {E : DE} {Φ : DV → Env → Prop} {pos : Pos}
theorem set_self {σ : L2.St} {i : Nat} {v : Option V} (h : σ[i]? = some v) : σ.set i v = σ := by
  apply List.ext_getElem?
  intro j
  by_cases hj : i = j
  · subst hj
    rw [List.getElem?_set_self (List.getElem?_eq_some_iff.mp h).1, h]
  · rw [List.getElem?_set_ne hj]
/-- a slot's own thing is held fast, and read -/
theorem de_frz {i : Nat} {x : Str} {p : Addr} {c : Cell} {d : D} (hi : Nth G.X.N i x) (hδ : δ[i]? = some (.own p c)) (fs : Fast (.own p c) d) (h : Put δ i (.val d) (Φ (.val d)))
    (hv : Vis G.X.env.scope x) (hd : (x == ("__debug__" : Str)) = false) (hcd : (x == ("__classdict__" : Str)) = false) : de G (.Name x pos) δ Φ := fun σ I H y f Q q => by
  refine (de_move hi hδ (Φ := fun r δ1 => r = .own p c ∧ δ1 = δ.set i .no) ⟨rfl, rfl⟩ hv hd hcd) σ I H y f Q fun r δ' v I' H' ⟨hr, he⟩ y1 g1 => ?_
  subst hr
  subst he
  obtain ⟨hv1, hi1, hc1, hn1⟩ := y1.head_own
  obtain ⟨I2, y2, g2⟩ := y1.freeze
  obtain ⟨u, e1, rp⟩ := y2.head_val
  cases e1
  cases fs.eq
  cases hv1
  obtain ⟨s1, _, _⟩ := y.own i p c hδ
  have y3 := ((y2.tail.cons_val rp).set i)
  rw [set_self s1] at y3
  have e : (List.set δ i .no).set i (.val ((DV.own p c).toD)) = δ.set i (.val ((DV.own p c).toD)) := by rw [List.set_set]
  have rp : Rep G.X.K I2 ((DV.own p c).toD) (.ref p) := rp
  have y3 : EnvR G.X.K I2 H' σ ((List.set δ i .no).set i (.val ((DV.own p c).toD))) := y3
  rw [e] at y3
  refine q _ _ _ I2 H' h (y3.cons_val rp) ((g1.trans g2 y1.sub).sub fun a ha => ?_)
  have ha := own_cons_val.mp ha
  obtain ⟨j, c', e'⟩ := own_set ha
  cases j with
  | zero => simp at e'
  | succ j =>
    by_cases hj : j = i
    · subst hj
      have e' : δ[j]? = some (.own a c') := by simpa using e'
      rw [hδ] at e'
      cases e'
      have := ha
      obtain ⟨k, ck, ek⟩ := this
      by_cases hk : k = j
      · subst hk
        have hl : k < δ.length := (List.getElem?_eq_some_iff.mp hδ).1
        rw [List.getElem?_set_self hl] at ek
        cases ek
      · rw [List.getElem?_set_ne (Ne.symm hk)] at ek
        exact absurd (y.inj k j _ _ _ ek hδ) hk
    · exact ⟨j, c', by rw [List.getElem?_set_ne (Ne.symm hj)]; simpa using e'⟩
theorem di_frz {tg : Expr} {i : Nat} {x : Str} {p : Addr} {c : Cell} {d : D} {Φ : Nat → (Nat → D → Prop) → Env → Prop} (hi : Nth G.X.N i x) (hδ : δ[i]? = some (.own p c)) (fs : Fast (.own p c) d) (h : Put δ i (.val d) fun δ1 => ∃ n it, SeqD d n it ∧ Φ n it δ1)
    (hv : Vis G.X.env.scope x) (hd : (x == ("__debug__" : Str)) = false) (hcd : (x == ("__classdict__" : Str)) = false) : di G tg (.Name x pos) δ Φ :=
  di_seq (de_frz hi hδ fs (by
    unfold Put at h ⊢
    exact ⟨d, .val, h⟩) hv hd hcd)
theorem env_frz {K : PySem.W.Frag} {I H : Hp} {σ : L2.St} {i : Nat} {p : Addr} {c : Cell} {d : D} (y : EnvR K I H σ δ) (hδ : δ[i]? = some (.own p c)) (fs : Fast (.own p c) d) :
    ∃ I2, EnvR K I2 H σ (δ.set i (.val d)) ∧ Goes (Own δ) (Own (δ.set i (.val d))) I H I2 H := by
  obtain ⟨s1, s2, s3⟩ := y.own i p c hδ
  have hl : i < δ.length := (List.getElem?_eq_some_iff.mp hδ).1
  have y0 := y.forget i (some (.ref p))
  rw [set_self s1] at y0
  have nn : ¬ Own (δ.set i .no) p := fun ⟨j, c', e⟩ => by
    by_cases hj : j = i
    · subst hj
      rw [List.getElem?_set_self hl] at e
      cases e
    · rw [List.getElem?_set_ne (Ne.symm hj)] at e
      exact hj (y.inj j i p _ _ e hδ)
  have y1 := y0.cons_own nn s2 s3
  obtain ⟨I2, y2, g2⟩ := y1.freeze
  obtain ⟨u, e1, rp⟩ := y2.head_val
  cases e1
  cases fs.eq
  have y3 := (y2.tail.cons_val rp).set i
  rw [set_self s1, List.set_set] at y3
  refine ⟨I2, y3, ⟨g2.le, fun a o h hi np => g2.keep a o h hi fun ho => ?_, fun a ha => ?_⟩⟩
  · obtain ⟨j, c', e⟩ := ho
    cases j with
    | zero =>
      simp at e
      obtain ⟨rfl, rfl⟩ := e
      exact np ⟨i, _, hδ⟩
    | succ j =>
      obtain ⟨j', c'', e'⟩ := own_forget (δ := δ) (i := i) ⟨j, c', by simpa using e⟩
      exact np ⟨j', c'', e'⟩
  · obtain ⟨j, c', e⟩ := ha
    by_cases hj : j = i
    · subst hj
      rw [List.getElem?_set_self hl] at e
      cases e
    · rw [List.getElem?_set_ne (Ne.symm hj)] at e
      exact .inl ⟨j, c', e⟩
/-- from here on nobody changes it -/
theorem dsb_frz {st : List Stmt} {i : Nat} {p : Addr} {c : Cell} {d : D} (hδ : δ[i]? = some (.own p c)) (fs : Fast (.own p c) d) (h : dsb G st (δ.set i (.val d)) E) : dsb G st δ E := fun σ I H T y f => by
  obtain ⟨I2, y2, g2⟩ := env_frz y hδ fs
  exact h σ I2 H T y2 (f.go g2 y2.sub)
/-- a word between a statement and what follows -/
theorem ds_mid {st : Stmt} (Mid : Env → Prop) (h : ds G st δ { E with nx := Mid }) (k : ∀ δ', Mid δ' → E.nx δ') : ds G st δ E := fun σ I H T x f =>
  h σ I H T x ⟨fun σ' δ' I' H' a b c => f.nx σ' δ' I' H' (k δ' a) b c, f.rt, f.bk, f.ct, f.xc⟩
/-- x[i], x a list of one's own: the item as it stands there -/
theorem de_ixO {i : Nat} {x : Str} {px : Pos} {p : Addr} {ds0 : List D} {b : Expr} (hi : Nth G.X.N i x) (hδ : δ[i]? = some (.own p (.lst ds0))) (h : dgs G [b] δ fun as δ1 => ∃ k ds d, AllV as [.int k] ∧ δ1[i]? = some (.own p (.lst ds)) ∧ atI ds k = some d ∧ Φ (.val d) δ1)
    (hv : Vis G.X.env.scope x) (hd : (x == ("__debug__" : Str)) = false) (hcd : (x == ("__classdict__" : Str)) = false) (hs : PlainIx b) : de G (.Subscript (.Name x px) b pos) δ Φ := fun σ I H y f Q q =>
  (pe_ix ix_list PE.of PE.of hs).to (by
    obtain ⟨h1, h2, h3⟩ := y.own i p _ hδ
    refine we_slot hi hv hd hcd h1 ?_
    refine we_mono (h σ I H y f (fun vs H1 => ∃ v, vs = [v] ∧ rIxL G.X.K (.ref p) v H1 Q) fun as δ1 vs I1 H1 ⟨k, ds, d, ha, hc, hat, hΦ⟩ y1 ar g => ?_) fun v H1 ⟨u, e, h⟩ => by
      cases e
      exact h
    cases ha.eq
    obtain ⟨u, r, rfl, e1, e2⟩ := ar
    cases (show _ = _ from e1)
    cases (show _ = _ from e2)
    obtain ⟨_, _, xs, g1, g2⟩ := y1.own i p _ hc
    unfold atI at hat
    cases e : ixN ds.length k with
    | none => rw [e] at hat; cases hat
    | some m =>
      rw [e] at hat
      obtain ⟨v, e3, e4⟩ := g2.get (i := m) hat
      refine ⟨_, rfl, p, xs, k, v, rfl, rfl, SqL.of g1, ?_, q _ δ1 v I1 H1 hΦ (y1.cons_val e4) (g.sub fun a h => own_cons_val.mp h)⟩
      unfold atI
      rw [g2.length, e]
      exact e3)
/-- x += e, for what the operator gives on the two values -/
theorem ds_aug {i : Nat} {x : Str} {d : D} {e : Expr} {op : Operator} {pos' : Pos} (hi : Nth G.X.N i x) (hδ : δ[i]? = some (.val d)) (h : de G e δ fun r δ1 => ∃ y, Fast r y ∧ DR G.X.K (R2l (wop G.X (inplaceOp op))) [d, y] fun r => r ≠ .no ∧ Put δ1 i r E.nx)
    (hN : G.X.N.Nodup) (hx : Loc G.X.env.scope x) (hf : G.X.fn x = true ∨ G.X.env.scope.names.lookup x = some .local) : ds G (.AugAssign (.Name x pos') op e pos) δ E := fun σ I H T y f =>
  (ps_aug (ti := wop G.X (inplaceOp op)) hN hi.eq hx PE.of (fun pins s σ H x y v u Q I rx ry h => h pins s σ v u I rx ry) hf).to (by
    obtain ⟨v, h1, h2⟩ := y.val i d hδ
    refine ⟨v, h1, h σ I H y f.xc _ fun r δ1 u I1 H1 ⟨dy, fs, hr⟩ y1 g1 => ?_⟩
    have nr := fs.ne
    cases fs.eq
    obtain ⟨I2, y2, rp, g2⟩ := top_fast y1 g1 nr
    obtain ⟨_, _, e1, e2⟩ := hr I2 H1 [v, u] y2.sub (Reps.cons (Rep.mono g2.le _ _ h2) (Reps.cons rp Reps.nil)) (fun z H2 => T.nx (σ.set i (some z)) H2) fun r' v' I' H' ⟨nr', hp⟩ re => by
      obtain ⟨I3, y3, g3⟩ := unlent (b := false) y2 (Bor.refl y2.sub) (fun _ => rfl) (fun e => by cases e) re
      exact f.nx _ _ I3 H' hp (y3.set i) ((g2.trans g3 y2.sub).sub fun _ => own_set)
    cases e1
    exact e2)
end
section
variable {X : Cx} {Ψ : DV → Prop} {i j : Int}
theorem small_len {n : Nat} (h : Nat.ble n 1000 = true) : n ≤ sizeLine := Nat.le_trans (Nat.le_of_ble_eq_true h) (by decide)
theorem dr_lenM {α : Type} {f : α → D} {as : List α} (h : Ψ (.val (.int as.length))) : DR X.K (wcall X (.builtin "len")) [.lst (as.map f)] Ψ := dr_lenL (by rw [List.length_map]; exact h)
theorem dr_lenMT {α : Type} {f : α → D} {as : List α} (h : Ψ (.val (.int as.length))) : DR X.K (wcall X (.builtin "len")) [.tup (as.map f)] Ψ := dr_lenT (by rw [List.length_map]; exact h)
theorem dr_iadd (h : Ψ (.val (.int (i + j)))) : DR X.K (R2l (wop X (inplaceOp .Add))) [.int i, .int j] Ψ := dr_II0 iop_add h
theorem dr_isub (h : Ψ (.val (.int (i - j)))) : DR X.K (R2l (wop X (inplaceOp .Sub))) [.int i, .int j] Ψ := dr_II0 iop_sub h
end
end Zd

/-! Deep data: shapes of goals that the macros meet. -/
namespace Zd
open PySem L2
theorem small_lt {n : Nat} (h : Nat.ble n 1000 = true) : n < sizeLine := Nat.lt_of_le_of_lt (Nat.le_of_ble_eq_true h) (by decide)
theorem tru_go {δ : Env} {as : List Arg} {d : D} {k b : Bool} {Φ : Bool → Prop} (h : ArgsD δ as [d] b) (t : TruD d k) (q : Φ k) : ∃ d k b, ArgsD δ as [d] b ∧ TruD d k ∧ Φ k := ⟨d, k, b, h, t, q⟩
theorem dr_isi3 {X : Cx} {Ψ : DV → Prop} {x : D} {a b c : String} {r1 r2 r : Bool} (hr : (r1 || r2) = r) (ha : tyD x = some a) (h1 : kitB a b = some r1) (h2 : kitB a c = some r2) (h : Ψ (.val (.bl r))) : DR X.K (wcall X (.builtin "isinstance")) [x, .tup [.raw (.ty b), .raw (.ty c)]] Ψ :=
  dr_isi2 ha h1 h2 (by rw [hr]; exact h)
theorem cal_go {δ : Env} {as : List Arg} {n : Nat} {P : List D → Bool → Prop} {ds : List D} {b : Bool} (h : ArgsD δ as ds b) (hl : ds.length = n) (k : P ds b) : ∃ ds b, ArgsD δ as ds b ∧ ds.length = n ∧ P ds b := ⟨ds, b, h, hl, k⟩
theorem fm_if {α β : Type} {t : α → Bool} {g : α → β} : ∀ {as : List α}, as.filterMap (fun i => if t i = true then some (g i) else none) = (as.filter t).map g
  | [] => rfl
  | a :: as => by
    rw [List.filterMap_cons, List.filter_cons]
    by_cases h : t a = true
    · rw [if_pos h, if_pos h, List.map_cons, fm_if]
    · rw [if_neg h, if_neg h, fm_if]
theorem bit_nn (c i : Nat) : 0 ≤ (c : Int) / 2 ^ ((i : Int)).toNat := Int.ediv_nonneg (Int.natCast_nonneg _) (Int.le_of_lt (Int.pow_pos (by decide)))
theorem bit_cast (c i : Nat) : (c : Int) / 2 ^ ((i : Int)).toNat % 2 = ((c / 2 ^ i % 2 : Nat) : Int) := by
  rw [Int.toNat_natCast]
  push_cast
  rfl
theorem bit_is (c i : Nat) : ((c : Int) / 2 ^ ((i : Int)).toNat % 2 = 1) ↔ c / 2 ^ i % 2 = 1 := by
  rw [bit_cast]; omega
section
variable {G : Gx} {δ : Env} {E : DE}
/-- the value of an expression, held fast from here on -/
theorem de_fast {e : Expr} {Φ : DV → Env → Prop} (h : de G e δ fun r δ1 => ∃ d, Fast r d ∧ Φ (.val d) δ1) : de G e δ Φ := fun σ I H x f Q q =>
  h σ I H x f Q fun r δ1 v I1 H1 ⟨d, fs, k⟩ y g => by
    cases fs with
    | val => exact q _ _ _ _ _ k y g
    | lst =>
      obtain ⟨I2, y2, g2⟩ := env_frz (i := 0) y rfl .lst
      exact q _ δ1 v I2 H1 k y2 (g.trans g2 y.sub)
    | dic =>
      obtain ⟨I2, y2, g2⟩ := env_frz (i := 0) y rfl .dic
      exact q _ δ1 v I2 H1 k y2 (g.trans g2 y.sub)
    | obj =>
      obtain ⟨I2, y2, g2⟩ := env_frz (i := 0) y rfl .obj
      exact q _ δ1 v I2 H1 k y2 (g.trans g2 y.sub)
    | ab =>
      obtain ⟨I2, y2, g2⟩ := env_frz (i := 0) y rfl .ab
      exact q _ δ1 v I2 H1 k y2 (g.trans g2 y.sub)
end
theorem least_nat {P : Nat → Prop} : ∀ n, P n → ∃ m, P m ∧ ∀ k, P k → m ≤ k := fun n => by
  induction n using Nat.strongRecOn with
  | _ n ih =>
    intro h
    by_cases hx : ∃ k, k < n ∧ P k
    · obtain ⟨k, hk, hp⟩ := hx
      exact ih k hk hp
    · exact ⟨n, h, fun k hk => Nat.le_of_not_lt fun hlt => hx ⟨k, hlt, hk⟩⟩
theorem dsb_frzS {G : Gx} {δ δ' : Env} {E : DE} {st : List Stmt} {i : Nat} {p : Addr} {c : Cell} {d : D} (hδ : δ[i]? = some (.own p c)) (fs : Fast (.own p c) d) (sa : SetAt δ i (.val d) δ') (h : dsb G st δ' E) : dsb G st δ E := dsb_frz hδ fs (by rw [sa.eq]; exact h)
theorem ds_frzS {G : Gx} {δ δ' : Env} {E : DE} {st : Stmt} {i : Nat} {p : Addr} {c : Cell} {d : D} (hδ : δ[i]? = some (.own p c)) (fs : Fast (.own p c) d) (sa : SetAt δ i (.val d) δ') (h : ds G st δ' E) : ds G st δ E := fun σ I H T y f => by
  obtain ⟨I2, y2, g2⟩ := env_frz y hδ fs
  rw [sa.eq] at y2 g2
  exact h σ I2 H T y2 (f.go g2 y2.sub)
theorem calM_go {δ : Env} {i : Nat} {q : Addr} {as : List Arg} {n : Nat} {P : Cell → List D → Prop} {c : Cell} {ds : List D} (h : δ[i]? = some (.own q c)) (a : AllV as ds) (hl : ds.length + 1 = n) (k : P c ds) : ∃ c ds, δ[i]? = some (.own q c) ∧ AllV as ds ∧ ds.length + 1 = n ∧ P c ds := ⟨c, ds, h, a, hl, k⟩
theorem iteNT {A B : Prop} (h : B) : if (!true) = true then A else B := h
theorem iteNF {A B : Prop} (h : A) : if (!false) = true then A else B := h
/-- data that may be compared -/
def okD : Nat → D → Prop
  | _, .non => True
  | _, .bl _ => True
  | _, .int _ => True
  | _, .str s => PyData.strOk s = true
  | n + 1, .lst ds => ∀ x ∈ ds, okD n x
  | n + 1, .tup ds => ∀ x ∈ ds, okD n x
  | _, _ => False
theorem okDs_py {n : Nat} (ih : ∀ d, okD n d → ∃ p, toPy d = some p ∧ p.canLay0 = true ∧ p.depth ≤ n) : ∀ ds : List D, (∀ x ∈ ds, okD n x) → ∃ ps, toPys ds = some ps ∧ PyData.canLayAll0 ps = true ∧ PyData.depthAll ps ≤ n
  | [], _ => ⟨[], rfl, rfl, Nat.zero_le _⟩
  | d :: ds, h => by
    obtain ⟨p, p1, p2, p3⟩ := ih d (h d (.head _))
    obtain ⟨ps, q1, q2, q3⟩ := okDs_py ih ds fun x hx => h x (.tail _ hx)
    refine ⟨p :: ps, ?_, ?_, ?_⟩
    · rw [toPys, p1, q1]; rfl
    · rw [PyData.canLayAll0, p2, q2]; rfl
    · rw [PyData.depthAll]; omega
theorem okD_py : ∀ (n : Nat) (d : D), okD n d → ∃ p, toPy d = some p ∧ p.canLay0 = true ∧ p.depth ≤ n
  | n, .non, _ => ⟨.none, rfl, rfl, Nat.zero_le _⟩
  | n, .bl b, _ => ⟨.bool b, rfl, rfl, Nat.zero_le _⟩
  | n, .int i, _ => ⟨.int i, rfl, rfl, Nat.zero_le _⟩
  | n, .str s, h => by
    have h : PyData.strOk s = true := by
      cases n <;> exact h
    exact ⟨.str s, rfl, h, Nat.zero_le _⟩
  | n + 1, .lst ds, h => by
    obtain ⟨ps, q1, q2, q3⟩ := okDs_py (okD_py n) ds h
    exact ⟨.list ps, by rw [toPy, q1]; rfl, q2, by rw [PyData.depth]; omega⟩
  | n + 1, .tup ds, h => by
    obtain ⟨ps, q1, q2, q3⟩ := okDs_py (okD_py n) ds h
    exact ⟨.tuple ps, by rw [toPy, q1]; rfl, q2, by rw [PyData.depth]; omega⟩
  | 0, .lst ds, h => h.elim
  | 0, .tup ds, h => h.elim
  | n, .raw v, h => by cases n <;> exact h.elim
  | n, .klst v, h => by cases n <;> exact h.elim
  | n, .dic k v, h => by cases n <;> exact h.elim
  | n, .obj C k v, h => by cases n <;> exact h.elim
theorem dr_eqSame {X : Cx} {Ψ : DV → Prop} {x : D} {n k : Nat} (hr : Room k X.A) (hx : okD n x) (hn : n ≤ 64) (h : Ψ (.val (.bl true))) : DR X.K (R2l (wop X (compareOp .Eq))) [x, x] Ψ := by
  obtain ⟨p, p1, p2, p3⟩ := okD_py n x hx
  have sh : SeqAt.shaped p = true := by
    unfold SeqAt.shaped
    rw [p2, decide_eq_true (show p.depth ≤ 64 by omega)]; rfl
  exact dr_eqD hr.units p1 p1 sh sh (by rw [SeqAt.eqv_refl p p2]; exact h)
theorem dr_neSame {X : Cx} {Ψ : DV → Prop} {x : D} {n k : Nat} (hr : Room k X.A) (hx : okD n x) (hn : n ≤ 64) (h : Ψ (.val (.bl false))) : DR X.K (R2l (wop X (compareOp .NotEq))) [x, x] Ψ := by
  obtain ⟨p, p1, p2, p3⟩ := okD_py n x hx
  have sh : SeqAt.shaped p = true := by
    unfold SeqAt.shaped
    rw [p2, decide_eq_true (show p.depth ≤ 64 by omega)]; rfl
  exact dr_neD hr.units p1 p1 sh sh (by rw [SeqAt.eqv_refl p p2]; exact h)
end Zd

/-! Deep data: slices, further built-ins. -/
namespace Zd
open PySem L2
/-! ### slices -/
def wsl (X : Cx) : V → Option Int → Option Int → Hp → VK → Prop := fun x lo hi H Q => ∀ (pins : List (Addr × Obj)) (s : Shared) (σ : L2.St) (v vl vu : Value) (sl : Addr), Inv X pins σ H s → RelV x v → s.heap.IsSliceOf sl vl vu .none → IsPart vl lo → IsPart vu hi →
    ∃ T id, typeLookup (.type T) "__getitem__" = pure (some (.builtin id)) ∧ s.TypeIs v T ∧ wpAny (model X.prog X.w) X.A (getItem v (.ref sl)) (EP X pins σ Q) X.xe s
theorem sl_of {X : Cx} : SlR X (wsl X) := fun pins s σ H x v vl vu lo hi sl Q I rx hs pl pu h => h pins s σ v vl vu sl I rx hs pl pu
theorem sl_to {X : Cx} {r : V → Option Int → Option Int → Hp → VK → Prop} {x : V} {lo hi : Option Int} {H : Hp} {Q : VK} (p : SlR X r) (h : r x lo hi H Q) : wsl X x lo hi H Q := fun pins s σ v vl vu sl I rx hs pl pu => p pins s σ H x v vl vu lo hi sl Q I rx hs pl pu h
def RslTo (X : Cx) : List V → Hp → VK → Prop := fun vs H Q => ∃ x i, vs = [x, .int i] ∧ wsl X x none (some i) H Q
def RslFr (X : Cx) : List V → Hp → VK → Prop := fun vs H Q => ∃ x i, vs = [x, .int i] ∧ wsl X x (some i) none H Q
def RslAl (X : Cx) : List V → Hp → VK → Prop := fun vs H Q => ∃ x, vs = [x] ∧ wsl X x none none H Q
section
variable {G : Gx} {δ : Env} {Φ : DV → Env → Prop} {pos p2 : Pos}
theorem de_slTo {e hi : Expr} (h : dgs G [e, hi] δ (Asked G (RslTo G.X) Φ)) : de G (.Subscript e (.Slice none (some hi) none p2) pos) δ Φ :=
  de_R (es := [e, hi]) (R := RslTo G.X) (fun σ H Q h => (pe_slice sl_of PE.of po_none (po_some PE.of)).to (we_mono h fun x H1 h1 => we_mono h1 fun y H2 ⟨x', i, e, h2⟩ => by
    cases e
    exact ⟨i, rfl, h2⟩)) h
theorem de_slFr {e lo : Expr} (h : dgs G [e, lo] δ (Asked G (RslFr G.X) Φ)) : de G (.Subscript e (.Slice (some lo) none none p2) pos) δ Φ :=
  de_R (es := [e, lo]) (R := RslFr G.X) (fun σ H Q h => (pe_slice sl_of PE.of (po_some PE.of) po_none).to (we_mono h fun x H1 h1 => we_mono h1 fun y H2 ⟨x', i, e, h2⟩ => by
    cases e
    exact ⟨i, rfl, h2⟩)) h
theorem de_slAl {e : Expr} (h : dgs G [e] δ (Asked G (RslAl G.X) Φ)) : de G (.Subscript e (.Slice none none none p2) pos) δ Φ :=
  de_R (es := [e]) (R := RslAl G.X) (fun σ H Q h => (pe_slice sl_of PE.of po_none po_none).to (we_mono h fun x H1 ⟨x', e, h2⟩ => by
    cases e
    exact h2)) h
end
/-- the items of a slice -/
def cutD (ds : List D) (lo hi : Option Int) : List D := (ds.drop (HT.sIx ds.length 0 lo)).take (HT.sIx ds.length ds.length hi - HT.sIx ds.length 0 lo)
section
variable {X : Cx} {Ψ : DV → Prop}
theorem cut_reps {K : PySem.W.Frag} {I : Hp} {ds : List D} {vs : List V} {lo hi : Option Int} (h : Reps K I ds vs) : Reps K I (cutD ds lo hi) (cutV vs lo hi) := by
  unfold cutD cutV
  rw [h.length]
  exact (h.drop _).take _
theorem wsl_lst {as : List D} {lo hi : Option Int} {I H : Hp} {v : V} {Q : VK} (s : Le I H) (r : Rep X.K I (.lst as) v) (h : ∀ p, Ψ (.own p (.lst (cutD as lo hi)))) (q : ∀ r v I' H', Ψ r → Res X.K I H I' H' r v → Q v H') : wsl X v lo hi H Q := by
  obtain ⟨a, xs, rfl, g1, g2⟩ := r
  exact sl_to sl_list ⟨a, xs, rfl, SqL.of (s _ _ g1), fun p hp => q _ _ _ _ (h p) (Res.own s hp ⟨_, upd_same, cut_reps g2⟩)⟩
theorem wsl_tup {as : List D} {lo hi : Option Int} {I H : Hp} {v : V} {Q : VK} (s : Le I H) (r : Rep X.K I (.tup as) v) (h : Ψ (.val (.tup (cutD as lo hi)))) (q : ∀ r v I' H', Ψ r → Res X.K I H I' H' r v → Q v H') : wsl X v lo hi H Q := by
  obtain ⟨a, xs, rfl, g1, g2⟩ := r
  refine sl_to sl_tupA ⟨a, xs, rfl, (s.sqU g1).t, fun ⟨e1, e2⟩ => ?_, fun _ p hp => ?_⟩
  · have e : cutD as lo hi = as := by
      unfold cutD
      rw [← g2.length, e1, e2]
      rw [List.drop_zero, g2.length, Nat.sub_zero, List.take_length]
    rw [e] at h
    exact q _ _ I H h (Res.val s ⟨a, xs, rfl, g1, g2⟩)
  · have hi' : I p = none := le_none s hp
    exact q _ _ _ _ h (Res.fast s hp ⟨p, _, rfl, .inl upd_same, (cut_reps g2).mono (Le.new hi')⟩)
theorem dr_slToL {as : List D} {i : Int} (h : ∀ p, Ψ (.own p (.lst (cutD as none (some i))))) : DR X.K (RslTo X) [.lst as, .int i] Ψ := dr_2 fun I H v w s r1 r2 Q q => by
  cases (show _ = _ from r2)
  exact ⟨v, i, rfl, wsl_lst s r1 h q⟩
theorem dr_slFrL {as : List D} {i : Int} (h : ∀ p, Ψ (.own p (.lst (cutD as (some i) none)))) : DR X.K (RslFr X) [.lst as, .int i] Ψ := dr_2 fun I H v w s r1 r2 Q q => by
  cases (show _ = _ from r2)
  exact ⟨v, i, rfl, wsl_lst s r1 h q⟩
theorem dr_slToT {as : List D} {i : Int} (h : Ψ (.val (.tup (cutD as none (some i))))) : DR X.K (RslTo X) [.tup as, .int i] Ψ := dr_2 fun I H v w s r1 r2 Q q => by
  cases (show _ = _ from r2)
  exact ⟨v, i, rfl, wsl_tup s r1 h q⟩
theorem dr_slFrT {as : List D} {i : Int} (h : Ψ (.val (.tup (cutD as (some i) none)))) : DR X.K (RslFr X) [.tup as, .int i] Ψ := dr_2 fun I H v w s r1 r2 Q q => by
  cases (show _ = _ from r2)
  exact ⟨v, i, rfl, wsl_tup s r1 h q⟩
theorem dr_slAlL {as : List D} (h : ∀ p, Ψ (.own p (.lst as))) : DR X.K (RslAl X) [.lst as] Ψ := dr_1 fun I H v s r1 Q q => by
  refine ⟨v, rfl, wsl_lst s r1 (fun p => ?_) q⟩
  have e : cutD as none none = as := by
    unfold cutD
    rw [HT.sIx_none, HT.sIx_none, List.drop_zero, Nat.sub_zero, List.take_length]
  rw [e]
  exact h p
end
theorem cutD_to {ds : List D} {k : Nat} : cutD ds none (some (k : Int)) = ds.take k := by
  unfold cutD
  rw [HT.sIx_none, HT.sIx_nat, List.drop_zero, Nat.sub_zero]
  by_cases h : k ≤ ds.length
  · rw [Nat.min_eq_left h]
  · rw [Nat.min_eq_right (by omega), List.take_length, List.take_of_length_le (by omega)]
theorem cutD_from {ds : List D} {k : Nat} : cutD ds (some (k : Int)) none = ds.drop k := by
  unfold cutD
  rw [HT.sIx_none, HT.sIx_nat]
  by_cases h : k ≤ ds.length
  · rw [Nat.min_eq_left h, List.take_of_length_le (by rw [List.length_drop]; omega)]
  · rw [Nat.min_eq_right (by omega), Nat.sub_self, List.take_zero, List.drop_eq_nil_of_le (by omega)]
/-! ### flatness of what a map gives -/
theorem flat_map {α : Type} {f : α → D} (h : ∀ a, flatD (f a) = true) : ∀ as : List α, flatDs (as.map f) = true
  | [] => rfl
  | a :: as => by
    rw [List.map_cons, flatDs, h a, flat_map h as]; rfl
theorem flat_own {α : Type} {f : α → D} {p : Addr} {as : List α} (h : ∀ a, flatD (f a) = true) : Zd.flatV (.own p (.lst (as.map f))) = true := flat_map h as
theorem flat_tup {α : Type} {f : α → D} {as : List α} (h : ∀ a, flatD (f a) = true) : Zd.flatV (.val (.tup (as.map f))) = true := flat_map h as
theorem dsb_weakS {G : Gx} {δ δ' : Env} {E : DE} {st : List Stmt} {i : Nat} {p : Addr} {c c' : Cell} (hδ : δ[i]? = some (.own p c)) (w : Weak c c') (sa : SetAt δ i (.own p c') δ') (h : dsb G st δ' E) : dsb G st δ E := dsb_weak hδ w (by rw [sa.eq]; exact h)
theorem dr_isNv {X : Cx} {Ψ : DV → Prop} {x : D} {b : Bool} (hc : clear x = true) (hb : isNon x = b) (h : Ψ (.val (.bl b))) : DR X.K (R2l (wop X (compareOp .Is))) [x, .non] Ψ := dr_isN hc (by rw [hb]; exact h)
theorem dr_notNv {X : Cx} {Ψ : DV → Prop} {x : D} {b : Bool} (hc : clear x = true) (hb : (!isNon x) = b) (h : Ψ (.val (.bl b))) : DR X.K (R2l (wop X (compareOp .IsNot))) [x, .non] Ψ := dr_notN hc (by rw [hb]; exact h)
theorem dr_max2 {X : Cx} {Ψ : DV → Prop} {i j : Int} (hc : X.calm = true) (h : Ψ (.val (.int (if j > i then j else i)))) : DR X.K (wcall X (.builtin "max")) [.int i, .int j] Ψ := dr_2 fun I H v w s r1 r2 Q q => by
  cases (show _ = _ from r1)
  cases (show _ = _ from r2)
  exact (call_max2 hc).to ⟨i, j, rfl, q _ _ I H h (Res.val s rfl)⟩
theorem dr_min2 {X : Cx} {Ψ : DV → Prop} {i j : Int} (hc : X.calm = true) (h : Ψ (.val (.int (if j < i then j else i)))) : DR X.K (wcall X (.builtin "min")) [.int i, .int j] Ψ := dr_2 fun I H v w s r1 r2 Q q => by
  cases (show _ = _ from r1)
  cases (show _ = _ from r2)
  exact (call_min2 hc).to ⟨i, j, rfl, q _ _ I H h (Res.val s rfl)⟩
/-- a, b = e -/
theorem ds_asgT {G : Gx} {δ : Env} {E : DE} {tg e : Expr} {pos : Pos} (h : de G e δ fun r δ1 => ∃ d, Fast r d ∧ ∃ js, dgt G tg d δ1 js E.nx) (hs : swapsWithSole [tg] e pos.line G.X.env = pure false) (hw : swappedStores [tg] e G.X.env = pure none)
    (h1 : (assignEach [tg] G.X.env).map (·.2) = [assign tg G.X.env]) : ds G (.Assign [tg] e pos) δ E := fun σ I H T y f =>
  (ps_asg PE.of PG.of hs hw h1).to (h σ I H y f.xc _ fun r δ1 v I1 H1 ⟨d, fs, js, k⟩ y1 g1 => by
    have nr := fs.ne
    cases fs.eq
    obtain ⟨I2, y2, rp, g2⟩ := top_fast y1 g1 nr
    exact k σ I2 H1 v y2 rp _ fun σ' δ' hΦ y3 g3 _ _ => f.nx σ' δ' I2 H1 hΦ y3 (g2.trans g3 y2.sub))
end Zd

/-! Packing things one behind the other: the plain law, no program in sight. -/
namespace K
abbrev Th := Int × Int
def thOk (t : Th) : Prop := 0 ≤ t.1 ∧ t.1 ≤ 121 ∧ 1 ≤ t.2 ∧ t.2 ≤ 16
def ew (e : Int) (t : Th) : Int := (e + t.2 - 1) / t.2 * t.2 + t.1
theorem ew_mono {t : Th} (h : thOk t) {e e' : Int} (hh : e ≤ e') : ew e t ≤ ew e' t := by
  unfold ew
  have h1 : (e + t.2 - 1) / t.2 ≤ (e' + t.2 - 1) / t.2 := Int.ediv_le_ediv (by have := h.2.2.1; omega) (by omega)
  have h2 := Int.mul_le_mul_of_nonneg_right h1 (show 0 ≤ t.2 by have := h.2.2.1; omega)
  omega
theorem ew_bnd {t : Th} (h : thOk t) {e : Int} (he : 0 ≤ e) : 0 ≤ ew e t ∧ ew e t ≤ e + 136 := by
  unfold ew
  obtain ⟨a, b, c, d⟩ := h
  have h1 := Int.mul_ediv_add_emod (e + t.2 - 1) t.2
  have h2 := Int.emod_nonneg (e + t.2 - 1) (show t.2 ≠ 0 by omega)
  have h3 := Int.emod_lt_of_pos (e + t.2 - 1) (show 0 < t.2 by omega)
  rw [Int.mul_comm] at h1
  omega
def endT (e : Int) (o : List Th) : Int := o.foldl ew e
theorem endT_snoc (e : Int) (o : List Th) (t : Th) : endT e (o ++ [t]) = ew (endT e o) t := by
  unfold endT
  rw [List.foldl_append]; rfl
theorem endT_cons (e : Int) (o : List Th) (t : Th) : endT e (t :: o) = endT (ew e t) o := rfl
theorem endT_bnd : ∀ {o : List Th} {e : Int}, (∀ t ∈ o, thOk t) → 0 ≤ e → 0 ≤ endT e o ∧ endT e o ≤ e + 136 * o.length
  | [], e, _, he => ⟨he, by show e ≤ _; simp⟩
  | t :: o, e, h, he => by
    have b := ew_bnd (h t (.head _)) he
    have c := endT_bnd (o := o) (e := ew e t) (fun x hx => h x (.tail _ hx)) b.1
    rw [endT_cons, List.length_cons]
    refine ⟨c.1, ?_⟩
    have := c.2
    push_cast
    omega
structure Bst (e : Int) (T : List Th) (m : Int) : Prop where
  at_ : ∃ o : List Th, o.Perm T ∧ endT e o = m
  le : ∀ o : List Th, o.Perm T → m ≤ endT e o
theorem Bst.uniq {e : Int} {T : List Th} {m m' : Int} (h : Bst e T m) (h' : Bst e T m') : m = m' := by
  obtain ⟨o, p, q⟩ := h.at_
  obtain ⟨o', p', q'⟩ := h'.at_
  have a := h.le o' p'
  have b := h'.le o p
  omega
theorem Bst.bnd {e : Int} {T : List Th} {m : Int} (h : Bst e T m) (ok : ∀ t ∈ T, thOk t) (he : 0 ≤ e) : 0 ≤ m ∧ m ≤ e + 136 * T.length := by
  obtain ⟨o, p, q⟩ := h.at_
  rw [← q, ← p.length_eq]
  exact endT_bnd (fun t ht => ok t (p.mem_iff.mp ht)) he
theorem Bst.nil {e : Int} : Bst e [] e := ⟨⟨[], .nil, rfl⟩, fun o p => by rw [p.eq_nil]; exact Int.le_refl _⟩
structure IsMin (m : Int) (ns : List Int) : Prop where
  mem : m ∈ ns
  le : ∀ y ∈ ns, m ≤ y
theorem IsMin.uniq {m m' : Int} {ns : List Int} (h : IsMin m ns) (h' : IsMin m' ns) : m = m' := by
  have a := h.le _ h'.mem
  have b := h'.le _ h.mem
  omega
def rem (S : List Nat) (k : Nat) : List Nat := S.filter (fun j => j != k)
theorem perm_rem {S : List Nat} (nd : S.Nodup) {k : Nat} (hk : k ∈ S) : (k :: rem S k).Perm S := by
  have e : rem S k = S.erase k := by
    rw [nd.erase_eq_filter]
    rfl
  rw [e]
  exact (List.perm_cons_erase hk).symm
theorem Bst.last {e m : Int} {S : List Nat} {ts : Nat → Th} {f : Nat → Int} (nd : S.Nodup) (ok : ∀ k ∈ S, thOk (ts k)) (hf : ∀ k ∈ S, Bst e ((rem S k).map ts) (f k))
    (hm : IsMin m (S.map fun k => ew (f k) (ts k))) : Bst e (S.map ts) m := by
  refine ⟨?_, fun o p => ?_⟩
  · obtain ⟨k, hk, rfl⟩ := List.mem_map.mp hm.mem
    obtain ⟨o, p, q⟩ := (hf k hk).at_
    refine ⟨o ++ [ts k], ?_, by rw [endT_snoc, q]⟩
    refine (List.perm_append_singleton _ _).trans ?_
    exact (p.cons _).trans ((perm_rem nd hk).map ts)
  · have hne : S ≠ [] := by
      rintro rfl
      cases hm.mem
    have hne' : o ≠ [] := fun h => by
      rw [h] at p
      have := p.symm.eq_nil
      exact hne (List.map_eq_nil_iff.mp this)
    obtain ⟨o', t, rfl⟩ : ∃ o' t, o = o' ++ [t] := ⟨o.dropLast, o.getLast hne', (List.dropLast_concat_getLast hne').symm⟩
    have ht : t ∈ S.map ts := p.mem_iff.mp (by simp)
    obtain ⟨k, hk, rfl⟩ := List.mem_map.mp ht
    have p2 : o'.Perm ((rem S k).map ts) := by
      have a : (ts k :: o').Perm (ts k :: (rem S k).map ts) := ((List.perm_append_singleton _ _).symm.trans p).trans ((perm_rem nd hk).map ts).symm
      exact a.cons_inv
    rw [endT_snoc]
    exact Int.le_trans (hm.le _ (List.mem_map.mpr ⟨k, hk, rfl⟩)) (ew_mono (ok k hk) ((hf k hk).le _ p2))
theorem Bst.first {e m : Int} {S : List Nat} {ts : Nat → Th} (nd : S.Nodup) (h : Bst e (S.map ts) m) {k : Nat} (hk : k ∈ S) {v : Int} (hv : Bst (ew e (ts k)) ((rem S k).map ts) v) : m ≤ v := by
  obtain ⟨o, p, q⟩ := hv.at_
  rw [← q, ← endT_cons]
  exact h.le _ ((p.cons _).trans ((perm_rem nd hk).map ts))
theorem Bst.some {e m : Int} {S : List Nat} {ts : Nat → Th} (nd : S.Nodup) (h : Bst e (S.map ts) m) (hne : S ≠ []) : ∃ k ∈ S, ∀ v, Bst (ew e (ts k)) ((rem S k).map ts) v → v = m := by
  obtain ⟨o, p, q⟩ := h.at_
  cases o with
  | nil => exact absurd (List.map_eq_nil_iff.mp p.symm.eq_nil) hne
  | cons t o =>
    have ht : t ∈ S.map ts := p.mem_iff.mp (.head _)
    obtain ⟨k, hk, rfl⟩ := List.mem_map.mp ht
    refine ⟨k, hk, fun v hv => ?_⟩
    have p2 : o.Perm ((rem S k).map ts) := (p.trans ((perm_rem nd hk).map ts).symm).cons_inv
    have a := hv.le o p2
    rw [← endT_cons, q] at a
    have b := h.first nd hk hv
    omega
theorem Bst.ex {e : Int} {T : List Th} (ok : ∀ t ∈ T, thOk t) (he : 0 ≤ e) : ∃ m, Bst e T m := by
  obtain ⟨n, ⟨o, p, q⟩, h⟩ := Zd.least_nat (P := fun n => ∃ o : List Th, o.Perm T ∧ endT e o = (n : Int)) (endT e T).toNat ⟨T, .refl _, (Int.toNat_of_nonneg (endT_bnd ok he).1).symm⟩
  refine ⟨n, ⟨o, p, q⟩, fun o' p' => ?_⟩
  have b := (endT_bnd (fun t ht => ok t (p'.mem_iff.mp ht)) he).1
  have := h (endT e o').toNat ⟨o', p', (Int.toNat_of_nonneg b).symm⟩
  omega
/-! ### the law's orders, depth first -/
def R (S : List Nat) : Nat → List Nat → List (List Nat)
  | 0, o => [o]
  | j + 1, o => (S.filter fun n => !o.contains n).flatMap fun n => R S j (o ++ [n])
def ext (S : List Nat) (found : List (List Nat)) : List (List Nat) := found.flatMap fun o => (S.filter fun n => !o.contains n).map fun n => o ++ [n]
theorem ext_R (S : List Nat) : ∀ (j : Nat) (o : List Nat), ext S (R S j o) = R S (j + 1) o
  | 0, o => by
    show ext S [o] = (S.filter fun n => !o.contains n).flatMap fun n => [o ++ [n]]
    unfold ext
    rw [List.flatMap_singleton, List.map_eq_flatMap]
  | j + 1, o => by
    show ext S ((S.filter fun n => !o.contains n).flatMap fun n => R S j (o ++ [n])) = (S.filter fun n => !o.contains n).flatMap fun n => R S (j + 1) (o ++ [n])
    unfold ext
    rw [List.flatMap_assoc]
    congr 1
    funext n
    exact ext_R S j (o ++ [n])
theorem iter_R (S : List Nat) : ∀ (j : Nat), Nat.rec [[]] (fun _ f => ext S f) j = R S j []
  | 0 => rfl
  | j + 1 => by
    show ext S (Nat.rec [[]] (fun _ f => ext S f) j) = _
    rw [iter_R S j]
    exact ext_R S j []
abbrev lft (S o : List Nat) : List Nat := S.filter fun n => !o.contains n
theorem lft_snoc (S o : List Nat) (k : Nat) : lft S (o ++ [k]) = rem (lft S o) k := by
  unfold rem lft
  rw [List.filter_filter]
  congr 1
  funext n
  rw [Bool.eq_iff_iff]
  simp
  constructor
  · rintro ⟨a, b⟩; exact ⟨b, a⟩
  · rintro ⟨a, b⟩; exact ⟨b, a⟩
theorem lft_nil (S : List Nat) : lft S [] = S := by
  unfold lft
  rw [List.filter_eq_self]
  intro a _
  rfl
theorem rem_len {S : List Nat} (nd : S.Nodup) {k : Nat} (hk : k ∈ S) : (rem S k).length + 1 = S.length := by
  rw [← (perm_rem nd hk).length_eq]; rfl
theorem R_mem {S : List Nat} (nd : S.Nodup) : ∀ (j : Nat) (o x : List Nat), (lft S o).length = j → (x ∈ R S j o ↔ ∃ y, x = o ++ y ∧ y.Perm (lft S o))
  | 0, o, x, h => by
    rw [List.eq_nil_of_length_eq_zero h]
    show x ∈ [o] ↔ _
    rw [List.mem_singleton]
    constructor
    · rintro rfl; exact ⟨[], by simp, .nil⟩
    · rintro ⟨y, rfl, p⟩; rw [p.eq_nil]; simp
  | j + 1, o, x, h => by
    show x ∈ (lft S o).flatMap (fun n => R S j (o ++ [n])) ↔ _
    have nl : (lft S o).Nodup := nd.filter _
    rw [List.mem_flatMap]
    constructor
    · rintro ⟨n, hn, hx⟩
      have := rem_len nl hn
      rw [R_mem nd j (o ++ [n]) x (by rw [lft_snoc]; omega)] at hx
      obtain ⟨y, rfl, p⟩ := hx
      rw [lft_snoc] at p
      exact ⟨n :: y, by simp, (p.cons _).trans (perm_rem nl hn)⟩
    · rintro ⟨y, rfl, p⟩
      cases y with
      | nil => rw [p.symm.eq_nil] at h; cases h
      | cons n y =>
        have hn : n ∈ lft S o := p.mem_iff.mp (.head _)
        have := rem_len nl hn
        refine ⟨n, hn, (R_mem nd j (o ++ [n]) _ (by rw [lft_snoc]; omega)).mpr ⟨y, by simp, ?_⟩⟩
        rw [lft_snoc]
        exact (p.trans (perm_rem nl hn).symm).cons_inv
theorem perm_map {α β : Type} {f : α → β} : ∀ {o T : List β}, o.Perm T → ∀ S : List α, T = S.map f → ∃ o' : List α, o'.Perm S ∧ o'.map f = o := by
  intro o T p
  induction p with
  | nil => intro S h; exact ⟨[], by rw [List.map_eq_nil_iff.mp h.symm], rfl⟩
  | cons x p ih =>
    intro S h
    cases S with
    | nil => cases h
    | cons s S =>
      obtain ⟨rfl, rfl⟩ := List.cons.inj h
      obtain ⟨o', q, rfl⟩ := ih S rfl
      exact ⟨s :: o', q.cons _, rfl⟩
  | swap x y l =>
    intro S h
    cases S with
    | nil => cases h
    | cons s S =>
      cases S with
      | nil => cases h
      | cons s' S =>
        simp only [List.map_cons, List.cons.injEq] at h
        obtain ⟨rfl, rfl, rfl⟩ := h
        exact ⟨s' :: s :: S, .swap _ _ _, rfl⟩
  | trans _ _ ih1 ih2 =>
    intro S h
    obtain ⟨o', q, e⟩ := ih2 S h
    obtain ⟨o'', q', e'⟩ := ih1 o' e.symm
    exact ⟨o'', q'.trans q, e'⟩
noncomputable def bstv (e : Int) (T : List Th) : Int := Classical.epsilon fun m => Bst e T m
theorem Bst.v {e m : Int} {T : List Th} (h : Bst e T m) : bstv e T = m := (Classical.epsilon_spec (p := fun m => Bst e T m) ⟨m, h⟩ : Bst e T (bstv e T)).uniq h
abbrev isE (start : Int) (ts : Nat → Th) (g : Int) (x : List Nat) : Bool := decide (endT start (x.map ts) = g)
theorem R_least {S : List Nat} (nd : S.Nodup) {o : List Nat} {start g : Int} {ts : Nat → Th} (hb : Bst (endT start (o.map ts)) ((lft S o).map ts) g) :
    ((R S (lft S o).length o).find? (isE start ts g)).isSome = true := by
  obtain ⟨T, p, q⟩ := hb.at_
  obtain ⟨y, p', rfl⟩ := perm_map p _ rfl
  rw [List.find?_isSome]
  refine ⟨o ++ y, (R_mem nd _ o _ rfl).mpr ⟨y, rfl, p'⟩, ?_⟩
  unfold isE
  rw [List.map_append]
  unfold endT at q ⊢
  rw [List.foldl_append]
  exact decide_eq_true q
theorem R_none {S : List Nat} (nd : S.Nodup) {o : List Nat} {start g v : Int} {ts : Nat → Th} (hb : Bst (endT start (o.map ts)) ((lft S o).map ts) v) (hv : g < v) :
    (R S (lft S o).length o).find? (isE start ts g) = none := by
  rw [List.find?_eq_none]
  intro x hx
  obtain ⟨y, rfl, p⟩ := (R_mem nd _ o _ rfl).mp hx
  have := hb.le _ (p.map ts)
  unfold isE
  rw [List.map_append]
  unfold endT at this ⊢
  rw [List.foldl_append]
  simp
  omega
theorem greedy_step {S : List Nat} (nd : S.Nodup) {o : List Nat} {start g : Int} {ts : Nat → Th} (hb : Bst (endT start (o.map ts)) ((lft S o).map ts) g) (hne : lft S o ≠ [])
    (hv : ∀ k ∈ lft S o, Bst (ew (endT start (o.map ts)) (ts k)) ((rem (lft S o) k).map ts) (bstv (ew (endT start (o.map ts)) (ts k)) ((rem (lft S o) k).map ts))) :
    ∃ k rest, (lft S o).filter (fun k => decide (bstv (ew (endT start (o.map ts)) (ts k)) ((rem (lft S o) k).map ts) = g)) = k :: rest ∧ k ∈ lft S o ∧
      Bst (endT start ((o ++ [k]).map ts)) ((lft S (o ++ [k])).map ts) g ∧ (R S (lft S o).length o).find? (isE start ts g) = (R S (lft S (o ++ [k])).length (o ++ [k])).find? (isE start ts g) := by
  have nl : (lft S o).Nodup := nd.filter _
  obtain ⟨k0, h0, hk0⟩ := hb.some nl hne
  have e0 := hk0 _ (hv k0 h0)
  have m0 : k0 ∈ (lft S o).filter (fun k => decide (bstv (ew (endT start (o.map ts)) (ts k)) ((rem (lft S o) k).map ts) = g)) := List.mem_filter.mpr ⟨h0, decide_eq_true e0⟩
  have es : ∀ k, endT start ((o ++ [k]).map ts) = ew (endT start (o.map ts)) (ts k) := fun k => by rw [List.map_append]; exact endT_snoc _ _ _
  cases hf : (lft S o).filter (fun k => decide (bstv (ew (endT start (o.map ts)) (ts k)) ((rem (lft S o) k).map ts) = g)) with
  | nil => rw [hf] at m0; cases m0
  | cons k rest =>
    obtain ⟨l1, l2, hl, hn, hp, _⟩ := List.filter_eq_cons_iff.mp hf
    have hk : k ∈ lft S o := by rw [hl]; simp
    have hg := of_decide_eq_true hp
    have hb2 : Bst (endT start ((o ++ [k]).map ts)) ((lft S (o ++ [k])).map ts) g := by
      rw [es, lft_snoc]
      have := hv k hk
      rw [hg] at this
      exact this
    refine ⟨k, rest, rfl, hk, hb2, ?_⟩
    have hlen : (lft S o).length = (rem (lft S o) k).length + 1 := (rem_len nl hk).symm
    rw [hlen, lft_snoc]
    show ((lft S o).flatMap fun n => R S (rem (lft S o) k).length (o ++ [n])).find? _ = _
    rw [List.find?_flatMap]
    have key : ∀ n ∈ lft S o, (rem (lft S o) n).length = (rem (lft S o) k).length := fun n hn => by
      have a := rem_len nl hn
      have b := rem_len nl hk
      omega
    have sm := R_least nd hb2
    rw [lft_snoc] at sm
    have nn : ∀ n ∈ l1, (R S (rem (lft S o) k).length (o ++ [n])).find? (isE start ts g) = none := fun n h1 => by
      have hn' : n ∈ lft S o := by rw [hl]; simp [h1]
      rw [← key n hn']
      have hv' := hv n hn'
      have h2 := hn n h1
      have h3 := hb.first nl hn' hv'
      have h4 : bstv (ew (endT start (o.map ts)) (ts n)) ((rem (lft S o) n).map ts) ≠ g := fun e => h2 (decide_eq_true e)
      have := R_none (g := g) nd (o := o ++ [n]) (start := start) (ts := ts) (by rw [es, lft_snoc]; exact hv') (by omega)
      rw [lft_snoc] at this
      exact this
    generalize (rem (lft S o) k).length = j at *
    rw [hl]
    clear hl hf key hlen
    induction l1 with
    | nil =>
      rw [List.nil_append, List.findSome?_cons]
      cases hs : (R S j (o ++ [k])).find? (isE start ts g) with
      | none => rw [hs] at sm; cases sm
      | some y => rfl
    | cons n l1 ih =>
      rw [List.cons_append, List.findSome?_cons, nn n (.head _)]
      exact ih (fun x hx => hn x (.tail _ hx)) (fun x hx => nn x (.tail _ hx))
theorem Bst.vv {e : Int} {T : List Th} (ok : ∀ t ∈ T, thOk t) (he : 0 ≤ e) : Bst e T (bstv e T) := by
  obtain ⟨m, h⟩ := Bst.ex ok he
  rw [h.v]
  exact h
/-! ### the law's search for the least -/
structure Sought (E : List Nat → Int) (P : List (List Nat)) (b : Int) (l : List Nat) : Prop where
  none : P = [] → b = -1
  pos : P ≠ [] → 0 ≤ b ∧ (∀ x ∈ P, b ≤ E x) ∧ P.find? (fun x => decide (E x = b)) = some l
theorem Sought.start {E : List Nat → Int} : Sought E [] (-1) [] := ⟨fun _ => rfl, fun h => absurd rfl h⟩
theorem Sought.take {E : List Nat → Int} {P : List (List Nat)} {b : Int} {l o : List Nat} (h : Sought E P b l) (h0 : 0 ≤ E o) (hb : b < 0 ∨ E o < b) : Sought E (P ++ [o]) (E o) o := by
  refine ⟨fun e => by simp at e, fun _ => ⟨h0, ?_, ?_⟩⟩
  · intro x hx
    by_cases hp : P = []
    · subst hp
      rw [List.mem_singleton.mp hx]
      exact Int.le_refl _
    · obtain ⟨a, c, d⟩ := h.pos hp
      rcases List.mem_append.mp hx with hx | hx
      · have := c x hx; omega
      · rw [List.mem_singleton.mp hx]; exact Int.le_refl _
  · rw [List.find?_append]
    have : P.find? (fun x => decide (E x = E o)) = .none := by
      rw [List.find?_eq_none]
      intro x hx
      by_cases hp : P = []
      · rw [hp] at hx; cases hx
      · obtain ⟨a, c, d⟩ := h.pos hp
        have := c x hx
        simp
        omega
    rw [this]
    simp
theorem Sought.leave {E : List Nat → Int} {P : List (List Nat)} {b : Int} {l o : List Nat} (h : Sought E P b l) (h1 : ¬ b < 0) (h2 : ¬ E o < b) : Sought E (P ++ [o]) b l := by
  have hp : P ≠ [] := fun e => h1 (by rw [h.none e]; decide)
  obtain ⟨a, c, d⟩ := h.pos hp
  refine ⟨fun e => by simp at e, fun _ => ⟨a, ?_, ?_⟩⟩
  · intro x hx
    rcases List.mem_append.mp hx with hx | hx
    · exact c x hx
    · rw [List.mem_singleton.mp hx]; omega
  · rw [List.find?_append, d]; rfl
theorem R_ne {S : List Nat} (nd : S.Nodup) : R S S.length [] ≠ [] := fun e => by
  have := (R_mem nd S.length [] S (by rw [lft_nil])).mpr ⟨S, rfl, by rw [lft_nil]⟩
  rw [e] at this
  cases this
/-- what the law finds for a set of things -/
theorem Sought.best {S : List Nat} (nd : S.Nodup) {start b : Int} {l : List Nat} {ts : Nat → Th} (h : Sought (fun x => endT start (x.map ts)) (R S S.length []) b l) :
    Bst start (S.map ts) b ∧ (R S S.length []).find? (isE start ts b) = some l := by
  obtain ⟨a, c, d⟩ := h.pos (R_ne nd)
  refine ⟨⟨?_, fun o p => ?_⟩, d⟩
  · have hm := List.mem_of_find?_eq_some d
    obtain ⟨y, e, p⟩ := (R_mem nd S.length [] l (by rw [lft_nil])).mp hm
    rw [lft_nil] at p
    have e : l = y := e
    subst e
    have := List.find?_some d
    exact ⟨l.map ts, p.map ts, of_decide_eq_true this⟩
  · obtain ⟨y, p', rfl⟩ := perm_map p S rfl
    exact c y ((R_mem nd S.length [] y (by rw [lft_nil])).mpr ⟨y, rfl, by rw [lft_nil]; exact p'⟩)
/-! ### sets as numbers -/
def bits (c : Nat) : List Nat := (List.range 6).filter fun k => c / 2 ^ k % 2 == 1
theorem bits_nd (c : Nat) : (bits c).Nodup := List.Pairwise.filter _ List.nodup_range
theorem bits_len : ∀ n < 7, ∀ c < 2 ^ n, (List.range n).filter (fun k => c / 2 ^ k % 2 == 1) = bits c := by decide +kernel
theorem bits_lt : ∀ n < 7, ∀ c < 2 ^ n, ∀ k ∈ bits c, k < n := by decide +kernel
theorem bits_sub : ∀ c < 64, ∀ k ∈ bits c, 2 ^ k ≤ c ∧ bits (c - 2 ^ k) = rem (bits c) k := by decide +kernel
theorem bits_ne : ∀ c < 64, c ≠ 0 → bits c ≠ [] := by decide +kernel
theorem bits_all : ∀ n < 7, bits (2 ^ n - 1) = List.range n := by decide +kernel
theorem bits_intBits : ∀ c < 64, (List.range (PySem.Builtin.Int.intBits (c : Nat))).filter (fun k => c / 2 ^ k % 2 == 1) = bits c := by decide +kernel
theorem bits_count (c : Nat) : (bits c).length ≤ 6 := Nat.le_trans (List.length_filter_le ..) (by simp)
/-- the table of ends -/
structure Tab (start : Int) (ts : Nat → Th) (tab : List Int) : Prop where
  at_ : ∀ c v, tab[c]? = some v → Bst start ((bits c).map ts) v
theorem Tab.uniq {start : Int} {ts : Nat → Th} {t1 t2 : List Int} (h1 : Tab start ts t1) (h2 : Tab start ts t2) (hl : t1.length = t2.length) : t1 = t2 := by
  apply List.ext_getElem hl
  intro i a b
  exact (h1.at_ i _ (List.getElem?_eq_getElem a)).uniq (h2.at_ i _ (List.getElem?_eq_getElem b))
abbrev lbs (tab : List Int) (ts : Nat → Th) (c : Nat) : List Int := (bits c).map fun k => ew (tab.getD (c - 2 ^ k) 0) (ts k)
theorem Tab.least {start m : Int} {ts : Nat → Th} {tab : List Int} {c : Nat} (h : Tab start ts tab) (hc : c < 64) (hl : c ≤ tab.length) (ok : ∀ k ∈ bits c, thOk (ts k)) (hm : IsMin m (lbs tab ts c)) : Bst start ((bits c).map ts) m := by
  by_cases h0 : c = 0
  · subst h0
    cases hm.mem
  refine Bst.last (f := fun k => tab.getD (c - 2 ^ k) 0) (bits_nd c) ok (fun k hk => ?_) hm
  obtain ⟨h1, h2⟩ := bits_sub c hc k hk
  have hp : 0 < 2 ^ k := Nat.pow_pos (by decide)
  have hlt : c - 2 ^ k < tab.length := by omega
  rw [← h2]
  refine h.at_ _ _ ?_
  rw [List.getD_eq_getElem?_getD, List.getElem?_eq_getElem hlt]
  rfl
theorem Tab.snoc {start m : Int} {ts : Nat → Th} {tab : List Int} (h : Tab start ts tab) (hb : Bst start ((bits tab.length).map ts) m) : Tab start ts (tab ++ [m]) := ⟨fun c v hc => by
  by_cases hlt : c < tab.length
  · rw [List.getElem?_append_left hlt] at hc
    exact h.at_ c v hc
  · have := (List.getElem?_eq_some_iff.mp hc).1
    rw [List.length_append, List.length_singleton] at this
    have e : c = tab.length := by omega
    subst e
    rw [List.getElem?_append_right (Nat.le_refl _), Nat.sub_self] at hc
    cases hc
    exact hb⟩
theorem Tab.one (start : Int) (ts : Nat → Th) : Tab start ts [start] := ⟨fun c v hc => by
  cases c with
  | zero => cases hc; exact Bst.nil
  | succ c => simp at hc⟩
end K

namespace K
open PySem L2 Zd
open PyProof.Rows (envOfC)
def topS (i : Nat) : Stmt := PySem.Challenge.pw_romwright_k40_spoilt_tables.main.body.getD i (.Pass ⟨0, 0, 0, 0⟩)
abbrev st_start_behind : Stmt := topS 1
abbrev N_start_behind : List Str := ["end", "align"]
theorem sc_start_behind : FnScope N_start_behind ["end", "align"] (defScope st_start_behind) := ⟨rfl, rfl, rfl, by decide +kernel, rfl, by decide +kernel, by decide +kernel⟩
abbrev st_end_with : Stmt := topS 2
abbrev N_end_with : List Str := ["end", "thing"]
theorem sc_end_with : FnScope N_end_with ["end", "thing"] (defScope st_end_with) := ⟨rfl, rfl, rfl, by decide +kernel, rfl, by decide +kernel, by decide +kernel⟩
abbrev st_things_in : Stmt := topS 3
abbrev N_things_in : List Str := ["chosen", "number"]
theorem sc_things_in : FnScope N_things_in ["chosen"] (defScope st_things_in) := ⟨rfl, rfl, rfl, by decide +kernel, rfl, by decide +kernel, by decide +kernel⟩
abbrev st_least_behind : Stmt := topS 4
abbrev N_least_behind : List Str := ["ends", "things", "chosen", "number"]
theorem sc_least_behind : FnScope N_least_behind ["ends", "things", "chosen"] (defScope st_least_behind) := ⟨rfl, rfl, rfl, by decide +kernel, rfl, by decide +kernel, by decide +kernel⟩
abbrev st_judge_ends : Stmt := topS 5
abbrev N_judge_ends : List Str := ["start", "things", "ends", "chosen"]
theorem sc_judge_ends : FnScope N_judge_ends ["start", "things", "ends"] (defScope st_judge_ends) := ⟨rfl, rfl, rfl, by decide +kernel, rfl, by decide +kernel, by decide +kernel⟩
abbrev st_law_source : Stmt := topS 7
abbrev N_law_source : List Str := ["script", "cells", "cell", "mixed"]
theorem sc_law_source : FnScope N_law_source ["script"] (defScope st_law_source) := ⟨rfl, rfl, rfl, by decide +kernel, rfl, by decide +kernel, by decide +kernel⟩
abbrev st_law_draw : Stmt := topS 8
abbrev N_law_draw : List Str := ["source", "limit", "cells", "place", "digits", "count", "seed", "number"]
theorem sc_law_draw : FnScope N_law_draw ["source", "limit"] (defScope st_law_draw) := ⟨rfl, rfl, rfl, by decide +kernel, rfl, by decide +kernel, by decide +kernel⟩
abbrev st_law_is_number : Stmt := topS 9
abbrev N_law_is_number : List Str := ["thing"]
theorem sc_law_is_number : FnScope N_law_is_number ["thing"] (defScope st_law_is_number) := ⟨rfl, rfl, rfl, by decide +kernel, rfl, by decide +kernel, by decide +kernel⟩
abbrev st_law_plain : Stmt := topS 10
abbrev N_law_plain : List Str := ["thing", "one"]
theorem sc_law_plain : FnScope N_law_plain ["thing"] (defScope st_law_plain) := ⟨rfl, rfl, rfl, by decide +kernel, rfl, by decide +kernel, by decide +kernel⟩
abbrev st_law_things : Stmt := topS 11
abbrev N_law_things : List Str := ["source", "count", "biggest", "rows", "k", "size"]
theorem sc_law_things : FnScope N_law_things ["source", "count"] (defScope st_law_things) := ⟨rfl, rfl, rfl, by decide +kernel, rfl, by decide +kernel, by decide +kernel⟩
abbrev st_law_orders : Stmt := topS 12
abbrev N_law_orders : List Str := ["numbers", "found", "step", "longer", "order", "number"]
theorem sc_law_orders : FnScope N_law_orders ["numbers"] (defScope st_law_orders) := ⟨rfl, rfl, rfl, by decide +kernel, rfl, by decide +kernel, by decide +kernel⟩
abbrev st_law_end : Stmt := topS 13
abbrev N_law_end : List Str := ["start", "things", "order", "end", "number", "unit"]
theorem sc_law_end : FnScope N_law_end ["start", "things", "order"] (defScope st_law_end) := ⟨rfl, rfl, rfl, by decide +kernel, rfl, by decide +kernel, by decide +kernel⟩
abbrev st_law_table : Stmt := topS 14
abbrev N_law_table : List Str := ["start", "things", "chosen", "ends", "numbers", "k", "order"]
theorem sc_law_table : FnScope N_law_table ["start", "things"] (defScope st_law_table) := ⟨rfl, rfl, rfl, by decide +kernel, rfl, by decide +kernel, by decide +kernel⟩
abbrev st_law_worked_out : Stmt := topS 15
abbrev N_law_worked_out : List Str := ["rows", "things", "at", "chosen", "found", "k", "unit", "end"]
theorem sc_law_worked_out : FnScope N_law_worked_out ["rows", "things", "at"] (defScope st_law_worked_out) := ⟨rfl, rfl, rfl, by decide +kernel, rfl, by decide +kernel, by decide +kernel⟩
abbrev st_law_other_things : Stmt := topS 16
abbrev N_law_other_things : List Str := ["source", "start", "things", "at", "rows", "size", "unit"]
theorem sc_law_other_things : FnScope N_law_other_things ["source", "start", "things"] (defScope st_law_other_things) := ⟨rfl, rfl, rfl, by decide +kernel, rfl, by decide +kernel, by decide +kernel⟩
abbrev st_law_beside : Stmt := topS 17
abbrev N_law_beside : List Str := ["source", "start", "things", "right", "rows", "at", "change", "way", "step", "other", "end"]
theorem sc_law_beside : FnScope N_law_beside ["source", "start", "things", "right"] (defScope st_law_beside) := ⟨rfl, rfl, rfl, by decide +kernel, rfl, by decide +kernel, by decide +kernel⟩
abbrev st_law_due : Stmt := topS 18
abbrev N_law_due : List Str := ["rows", "right", "chosen"]
theorem sc_law_due : FnScope N_law_due ["rows", "right"] (defScope st_law_due) := ⟨rfl, rfl, rfl, by decide +kernel, rfl, by decide +kernel, by decide +kernel⟩
abbrev st_law_right : Stmt := topS 19
abbrev N_law_right : List Str := ["told", "due"]
theorem sc_law_right : FnScope N_law_right ["told", "due"] (defScope st_law_right) := ⟨rfl, rfl, rfl, by decide +kernel, rfl, by decide +kernel, by decide +kernel⟩
abbrev st_law : Stmt := topS 20
abbrev N_law : List Str := ["script", "source", "start", "count", "things", "right", "step", "rows", "due", "passed"]
theorem sc_law : FnScope N_law ["script"] (defScope st_law) := ⟨rfl, rfl, rfl, by decide +kernel, rfl, by decide +kernel, by decide +kernel⟩
structure Txt (mg : Str → Option Value) : Prop where
  b_len : mg "len" = none
  b_range : mg "range" = none
  b_int : mg "int" = none
  b_abs : mg "abs" = none
  b_min : mg "min" = none
  b_max : mg "max" = none
  b_list : mg "list" = none
  b_tuple : mg "tuple" = none
  b_isinstance : mg "isinstance" = none
  b_bool : mg "bool" = none
set_option hygiene false
set_option pp.deepTerms false
set_option pp.deepTerms.threshold 6
set_option pp.maxSteps 1500
local macro_rules | `(tactic| walk_at "znth") => `(tactic| (show Nth (_ :: _) _ _; repeat (first | with_reducible exact Nth.z | with_reducible apply Nth.s)))
local macro_rules | `(tactic| walk_at "zpa") => `(tactic| repeat (first | exact pa_nil | refine pa_cons PE.of ?_))
local macro_rules | `(tactic| walk_at "zvis") => `(tactic| first | exact .inl rfl | exact .inr (.inl rfl) | exact .inr (.inr rfl))
local macro_rules | `(tactic| walk_at "zloc") => `(tactic| first | exact .inl rfl | exact .inr rfl)
local macro_rules | `(tactic| walk_at "zblk") => `(tactic| (intro s H C cl fp; first | exact ⟨.inl rfl, .inr rfl⟩ | exact ⟨.inr rfl, .inl rfl⟩))
local macro_rules | `(tactic| walk_at "zset") => `(tactic| (repeat (first | with_reducible exact SetAt.z | with_reducible apply SetAt.s)))
local macro_rules | `(tactic| walk_at "zwipe") => `(tactic| (repeat (first | with_reducible exact WipeAt.z | with_reducible apply WipeAt.s)))
local macro_rules | `(tactic| walk_at "zargs") => `(tactic| (repeat (first | with_reducible exact ArgsD.nil | with_reducible apply ArgsD.v | (apply ArgsD.sv; rfl) | (apply ArgsD.so; rfl; (first | exact Fast.lst | exact Fast.obj | exact Fast.dic | exact Fast.ab)))))
local macro_rules | `(tactic| walk_at "zallv") => `(tactic| (with_reducible show AllV _ _; repeat (first | with_reducible exact AllV.nil | with_reducible apply AllV.v)))
local macro_rules | `(tactic| walk_at "zside") => `(tactic| first | assumption | decide | omega)
local macro_rules | `(tactic| walk_at "zcall") => `(tactic| fail "no call")
local macro_rules | `(tactic| walk_at "zB0") => `(tactic| first
  | with_reducible refine' dsb_one ?_
  | with_reducible refine' dsb_cons ?_
  | with_reducible refine' dsb_nil ?_)
local macro_rules | `(tactic| walk_at "zS") => `(tactic| first
  | with_reducible refine' ds_ret ?_
  | with_reducible refine' ds_retN ?_
  | with_reducible refine' ds_if ?_
  | with_reducible refine' ds_pass ?_
  | with_reducible refine' ds_break ?_
  | with_reducible refine' ds_continue ?_
  | ((with_reducible refine' ds_expr ?_ ?hs); (case hs => rfl))
  | ((with_reducible refine' ds_asg ?hi ?_ ?hN ?hx ?hs ?hf); (case hi => walk_at "znth"); (case hN => exact nd); (case hx => walk_at "zloc"); (case hs => rfl); (case hf => walk_at "zloc"))
  | ((with_reducible refine' ds_aug ?hi ?hd ?_ ?hN ?hx ?hf); (case hi => walk_at "znth"); (case hd => rfl); (case hN => exact nd); (case hx => walk_at "zloc"); (case hf => walk_at "zloc"))
  | ((with_reducible refine' ds_setL ?hi ?hd ?_ ?hv ?hs ?hw ?h1 ?h2 ?h3 ?h4); (case hi => walk_at "znth"); (case hd => rfl); (case hv => walk_at "zvis"); (case hs => rfl); (case hw => rfl); (case h1 => rfl); (case h2 => (intro _; rfl)); (case h3 => decide); (case h4 => decide))
  | ((with_reducible refine' ds_asgT ?_ ?hs ?hw ?h1); (case hs => rfl); (case hw => rfl); (case h1 => rfl)))
local macro_rules | `(tactic| walk_at "zEc") => `(tactic| first
  | walk_at "zcall"
  | ((with_reducible refine' de_callTy (x := "int") (T := "int") ?hm ?hv ?_ ?hg ?ha ?hn ?hdb ?he ?hpl); (case hm => exact T.b_int); (case hv => decide +kernel); (case hg => rfl); (case ha => walk_at "zpa"); (case hn => decide); (case hdb => decide); (case he => rfl); (case hpl => rfl))
  | ((with_reducible refine' de_callB (x := "len") (id := "len") ?hm ?hv ?_ ?hg ?ha ?hn ?hdb ?he ?hpl); (case hm => exact T.b_len); (case hv => decide +kernel); (case hg => rfl); (case ha => walk_at "zpa"); (case hn => decide); (case hdb => decide); (case he => rfl); (case hpl => rfl))
  | ((with_reducible refine' de_append ?hi ?hd ?_ ?hq ?hv ?h1 ?h2 ?h3 ?h4 ?h5 ?h6 ?h7); (case hi => walk_at "znth"); (case hd => rfl); (case hq => exact ⟨_, rfl⟩); (case hv => walk_at "zvis"); (case h1 => decide); (case h2 => decide); (case h3 => rfl); (case h4 => rfl); (case h5 => rfl); (case h6 => rfl); (case h7 => rfl))
  | ((with_reducible refine' de_callB (x := "min") (id := "min") ?hm ?hv ?_ ?hg ?ha ?hn ?hdb ?he ?hpl); (case hm => exact T.b_min); (case hv => decide +kernel); (case hg => rfl); (case ha => walk_at "zpa"); (case hn => decide); (case hdb => decide); (case he => rfl); (case hpl => rfl))
  | ((with_reducible refine' de_callB (x := "max") (id := "max") ?hm ?hv ?_ ?hg ?ha ?hn ?hdb ?he ?hpl); (case hm => exact T.b_max); (case hv => decide +kernel); (case hg => rfl); (case ha => walk_at "zpa"); (case hn => decide); (case hdb => decide); (case he => rfl); (case hpl => rfl))
  | ((with_reducible refine' de_callB (x := "abs") (id := "abs") ?hm ?hv ?_ ?hg ?ha ?hn ?hdb ?he ?hpl); (case hm => exact T.b_abs); (case hv => decide +kernel); (case hg => rfl); (case ha => walk_at "zpa"); (case hn => decide); (case hdb => decide); (case he => rfl); (case hpl => rfl))
  | ((with_reducible refine' de_callB (x := "sum") (id := "sum") ?hm ?hv ?_ ?hg ?ha ?hn ?hdb ?he ?hpl); (case hm => exact T.b_sum); (case hv => decide +kernel); (case hg => rfl); (case ha => walk_at "zpa"); (case hn => decide); (case hdb => decide); (case he => rfl); (case hpl => rfl))
  | ((with_reducible refine' de_callB (x := "all") (id := "all") ?hm ?hv ?_ ?hg ?ha ?hn ?hdb ?he ?hpl); (case hm => exact T.b_all); (case hv => decide +kernel); (case hg => rfl); (case ha => walk_at "zpa"); (case hn => decide); (case hdb => decide); (case he => rfl); (case hpl => rfl))
  | ((with_reducible refine' de_callB (x := "any") (id := "any") ?hm ?hv ?_ ?hg ?ha ?hn ?hdb ?he ?hpl); (case hm => exact T.b_any); (case hv => decide +kernel); (case hg => rfl); (case ha => walk_at "zpa"); (case hn => decide); (case hdb => decide); (case he => rfl); (case hpl => rfl))
  | ((with_reducible refine' de_callB (x := "isinstance") (id := "isinstance") ?hm ?hv ?_ ?hg ?ha ?hn ?hdb ?he ?hpl); (case hm => exact T.b_isinstance); (case hv => decide +kernel); (case hg => rfl); (case ha => walk_at "zpa"); (case hn => decide); (case hdb => decide); (case he => rfl); (case hpl => rfl))
  | ((with_reducible refine' de_callTy (x := "tuple") (T := "tuple") ?hm ?hv ?_ ?hg ?ha ?hn ?hdb ?he ?hpl); (case hm => exact T.b_tuple); (case hv => decide +kernel); (case hg => rfl); (case ha => walk_at "zpa"); (case hn => decide); (case hdb => decide); (case he => rfl); (case hpl => rfl))
  | ((with_reducible refine' de_listRg1 ?_ ?hc ?hg ?hm ?hg2 ?hm2 ?na ?na2); (case hc => rfl); (case hg => rfl); (case hm => exact T.b_list); (case hg2 => rfl); (case hm2 => exact T.b_range); (case na => rfl); (case na2 => rfl))
  | ((with_reducible refine' de_callTy (x := "list") (T := "list") ?hm ?hv ?_ ?hg ?ha ?hn ?hdb ?he ?hpl); (case hm => exact T.b_list); (case hv => decide +kernel); (case hg => rfl); (case ha => walk_at "zpa"); (case hn => decide); (case hdb => decide); (case he => rfl); (case hpl => rfl))
  | ((with_reducible refine' de_bits ?_ ?hb ?hl); (case hb => rfl); (case hl => rfl)))
local macro_rules | `(tactic| walk_at "zEn") => `(tactic| first
  | ((with_reducible refine' de_val ?hi ?hd ?_ ?hv ?h1 ?h2); (case hi => walk_at "znth"); (case hd => rfl); (case hv => walk_at "zvis"); (case h1 => decide); (case h2 => decide))
  | ((with_reducible refine' de_bltn (x := "int") (T := "int") ?hm ?hv ?_ ?hg ?hn ?hdb); (case hm => exact T.b_int); (case hv => decide +kernel); (case hg => rfl); (case hn => decide); (case hdb => decide))
  | ((with_reducible refine' de_bltn (x := "bool") (T := "bool") ?hm ?hv ?_ ?hg ?hn ?hdb); (case hm => exact T.b_bool); (case hv => decide +kernel); (case hg => rfl); (case hn => decide); (case hdb => decide))
  | ((with_reducible refine' de_bltn (x := "list") (T := "list") ?hm ?hv ?_ ?hg ?hn ?hdb); (case hm => exact T.b_list); (case hv => decide +kernel); (case hg => rfl); (case hn => decide); (case hdb => decide))
  | ((with_reducible refine' de_bltn (x := "tuple") (T := "tuple") ?hm ?hv ?_ ?hg ?hn ?hdb); (case hm => exact T.b_tuple); (case hv => decide +kernel); (case hg => rfl); (case hn => decide); (case hdb => decide))
  | ((with_reducible refine' de_bltn (x := "str") (T := "str") ?hm ?hv ?_ ?hg ?hn ?hdb); (case hm => exact T.b_str); (case hv => decide +kernel); (case hg => rfl); (case hn => decide); (case hdb => decide))
  | ((with_reducible refine' de_move ?hi ?hd ?_ ?hv ?h1 ?h2); (case hi => walk_at "znth"); (case hd => rfl); (case hv => walk_at "zvis"); (case h1 => decide); (case h2 => decide)))
local macro_rules | `(tactic| walk_at "zEo") => `(tactic| first
  | with_reducible refine' de_int ?_
  | with_reducible refine' de_str ?_
  | with_reducible refine' de_bl ?_
  | with_reducible refine' de_non ?_
  | with_reducible refine' de_bin ?_
  | with_reducible refine' de_not ?_
  | with_reducible refine' de_un ?_
  | with_reducible refine' de_slTo ?_
  | with_reducible refine' de_slFr ?_
  | with_reducible refine' de_slAl ?_
  | ((with_reducible refine' de_ixO ?hi ?hd ?_ ?hv ?h1 ?h2 ?hs); (case hi => walk_at "znth"); (case hd => rfl); (case hv => walk_at "zvis"); (case h1 => decide); (case h2 => decide); (case hs => exact fun _ _ => rfl))
  | ((with_reducible refine' de_ix ?_ ?hs); (case hs => exact fun _ _ => rfl))
  | ((with_reducible refine' de_cmp ?_ ?hm); (case hm => rfl))
  | ((with_reducible refine' de_tuple ?hp ?_); (case hp => walk_at "zpa"))
  | ((with_reducible refine' de_list ?hp ?_); (case hp => walk_at "zpa"))
  | with_reducible refine' de_ifexp ?_
  | with_reducible refine' de_one ?_
  | with_reducible refine' de_and ?_
  | with_reducible refine' de_or ?_
  | with_reducible refine' de_not ?_)
local macro_rules | `(tactic| walk_at "zDG") => `(tactic| first
  | with_reducible refine' dgs_nil ?_
  | ((with_reducible refine' dgs_slot ?hi ?hd ?_ ?hv ?h1 ?h2); (case hi => walk_at "znth"); (case hd => rfl); (case hv => walk_at "zvis"); (case h1 => decide); (case h2 => decide))
  | with_reducible refine' dgs_cons ?_)
local macro_rules | `(tactic| walk_at "zX") => `(tactic| first
  | ((with_reducible show DE.nx _ _); with_reducible refine' nx_go ?_)
  | ((with_reducible show DE.rt _ _ _); with_reducible refine' rt_go ?_)
  | ((with_reducible show DE.bk _ _); with_reducible refine' bk_go ?_)
  | ((with_reducible show DE.ct _ _); with_reducible refine' ct_go ?_)
  | with_reducible refine' okR_val ?_
  | with_reducible refine' okR_own ?_
  | ((with_reducible refine' put_go ?hp ?_); (case hp => walk_at "zset"))
  | with_reducible refine' ⟨_, Fast.val, ?_⟩
  | with_reducible refine' ⟨_, Fast.lst, ?_⟩
  | ((with_reducible refine' asked_v ?hp ?_); (case hp => walk_at "zargs"))
  | ((with_reducible refine' asked_o ?hp ?_); (case hp => walk_at "zargs"))
  | ((with_reducible refine' cal_go ?hp ?hl ?_); (case hp => walk_at "zargs"); (case hl => rfl))
  | ((with_reducible refine' ⟨_, false, ?hp, ?hl, ?_⟩); (case hp => walk_at "zargs"); (case hl => rfl))
  | ((with_reducible refine' ⟨_, true, ?hp, ?hl, ?_⟩); (case hp => walk_at "zargs"); (case hl => rfl))
  | ((with_reducible refine' calM_go ?hc ?hp ?hl ?_); (case hc => rfl); (case hp => walk_at "zallv"); (case hl => rfl))
  | ((with_reducible refine' ⟨_, _, _, ?ha, ?hc, ?hat, ?_⟩); (case ha => exact .v .nil); (case hc => rfl); (case hat => first | assumption | rfl))
  | ((with_reducible refine' ⟨_, _, _, ?ha, ?hc, ?hat, ?_⟩); (case ha => rfl); (case hc => rfl); (case hat => first | assumption | rfl))
  | with_reducible refine' ⟨fun e => Bool.noConfusion e, ?_⟩
  | ((with_reducible refine' ⟨fun _ => ?hf, ?_⟩); (case hf => first | rfl | exact flat_own (fun _ => rfl) | exact flat_tup (fun _ => rfl)))
  | ((with_reducible refine' ⟨(?hf : Zd.flatV _ = true), ?_⟩); (case hf => first | rfl | exact flat_own (fun _ => rfl) | exact flat_tup (fun _ => rfl)))
  | with_reducible refine' ⟨_, rfl, ?_⟩
  | ((with_reducible refine' ⟨⟨_, ?hc⟩, ?_⟩); (case hc => rfl))
  | ((with_reducible refine' ⟨_, _, ?hs1, ?hs2, ?hs3, ?_⟩); (case hs1 => rfl); (case hs2 => rfl); (case hs3 => first | assumption | exact small_lt rfl))
  | with_reducible refine' fun (q : Addr) => ?_
  | ((with_reducible refine' tru_go ?hp ?ht ?_); (case hp => walk_at "zargs"); (case ht => constructor))
  | with_reducible refine' iteT ?_
  | with_reducible refine' iteNT ?_
  | with_reducible refine' iteNF ?_
  | with_reducible refine' iteF ?_
  | ((with_reducible refine' if_yes ?hs ?_); (case hs => first | assumption | omega | decide))
  | ((with_reducible refine' if_no ?hs ?_); (case hs => first | assumption | omega | decide))
  | ((with_reducible refine' if_nyes ?hs ?_); (case hs => first | assumption | omega | decide))
  | ((with_reducible refine' if_nno ?hs ?_); (case hs => first | assumption | omega | decide)))
local macro_rules | `(tactic| walk_at "zDT") => `(tactic| first
  | ((with_reducible refine' dt_cmp ?_ ?hm); (case hm => rfl))
  | with_reducible refine' dt_not ?_
  | with_reducible refine' dt_bool ?_
  | ((with_reducible refine' dt_tru ?_ ?he); (case he => (intro _; rfl))))
local macro_rules | `(tactic| walk_at "zDW") => `(tactic| first
  | with_reducible refine' dw_and1 ?_
  | with_reducible refine' dw_or1 ?_
  | with_reducible refine' dw_and ?_
  | with_reducible refine' dw_or ?_)
local macro_rules | `(tactic| walk_at "zDb") => `(tactic| first
  | with_reducible refine' dr_add ?_
  | with_reducible refine' dr_sub ?_
  | ((with_reducible refine' dr_mul64 ?hs ?_); (case hs => first | assumption | exact .inl ⟨by omega, by omega⟩ | exact .inr ⟨by omega, by omega⟩))
  | ((with_reducible refine' dr_fdiv ?hs ?_); (case hs => first | assumption | exact ⟨by omega, by omega⟩))
  | ((with_reducible refine' dr_mod ?hs ?_); (case hs => walk_at "zside"))
  | ((with_reducible refine' dr_shr ?hs ?_); (case hs => walk_at "zside"))
  | ((with_reducible refine' dr_odd ?hs ?_); (case hs => walk_at "zside"))
  | ((with_reducible refine' dr_shl ?hs ?_); (case hs => first | assumption | exact ⟨by omega, by omega, by omega⟩ | decide))
  | ((with_reducible refine' dr_pow ?hs ?_); (case hs => first | assumption | exact ⟨by decide, by decide, by decide⟩)))
local macro_rules | `(tactic| walk_at "zDc") => `(tactic| first
  | with_reducible refine' dr_lt ?_
  | with_reducible refine' dr_le ?_
  | with_reducible refine' dr_gt ?_
  | with_reducible refine' dr_ge ?_
  | with_reducible refine' dr_eq ?_
  | with_reducible refine' dr_ne ?_
  | with_reducible refine' dr_eqstr ?_
  | with_reducible refine' dr_nestr ?_
  | ((with_reducible refine' dr_isNv (b := true) ?hs ?hb ?_); (case hs => rfl); (case hb => rfl))
  | ((with_reducible refine' dr_isNv (b := false) ?hs ?hb ?_); (case hs => rfl); (case hb => rfl))
  | ((with_reducible refine' dr_notNv (b := true) ?hs ?hb ?_); (case hs => rfl); (case hb => rfl))
  | ((with_reducible refine' dr_notNv (b := false) ?hs ?hb ?_); (case hs => rfl); (case hb => rfl))
  | ((with_reducible refine' dr_isN ?hs ?_); (case hs => rfl))
  | ((with_reducible refine' dr_notN ?hs ?_); (case hs => rfl)))
local macro_rules | `(tactic| walk_at "zDk") => `(tactic| first
  | with_reducible refine' dr_int ?_
  | with_reducible refine' dr_abs ?_
  | ((with_reducible refine' dr_max2 ?hc ?_); (case hc => rfl))
  | ((with_reducible refine' dr_min2 ?hc ?_); (case hc => rfl))
  | with_reducible refine' dr_lenM ?_
  | with_reducible refine' dr_lenMT ?_
  | with_reducible refine' dr_lenL ?_
  | with_reducible refine' dr_lenT ?_
  | ((with_reducible refine' dr_listOf ?hs ?_); (case hs => first | exact .inl rfl | exact .inr rfl))
  | ((with_reducible refine' dr_tupOf ?hs ?_); (case hs => first | exact .inl rfl | exact .inr rfl))
  | ((with_reducible refine' dr_isi3 (r1 := false) (r2 := false) (r := false) rfl ?ha ?h1 ?h2 ?_); (case ha => assumption); (case h1 => assumption); (case h2 => assumption))
  | ((with_reducible refine' dr_isi ?ha ?hk ?_); (case ha => assumption); (case hk => assumption))
  | ((with_reducible refine' dr_isi3 (r1 := true) (r2 := true) (r := true) rfl ?ha ?h1 ?h2 ?_); (case ha => rfl); (case h1 => decide +kernel); (case h2 => decide +kernel))
  | ((with_reducible refine' dr_isi3 (r1 := true) (r2 := false) (r := true) rfl ?ha ?h1 ?h2 ?_); (case ha => rfl); (case h1 => decide +kernel); (case h2 => decide +kernel))
  | ((with_reducible refine' dr_isi3 (r1 := false) (r2 := true) (r := true) rfl ?ha ?h1 ?h2 ?_); (case ha => rfl); (case h1 => decide +kernel); (case h2 => decide +kernel))
  | ((with_reducible refine' dr_isi3 (r1 := false) (r2 := false) (r := false) rfl ?ha ?h1 ?h2 ?_); (case ha => rfl); (case h1 => decide +kernel); (case h2 => decide +kernel))
  | ((with_reducible refine' dr_isi (r := true) ?ha ?hk ?_); (case ha => rfl); (case hk => decide +kernel))
  | ((with_reducible refine' dr_isi (r := false) ?ha ?hk ?_); (case ha => rfl); (case hk => decide +kernel)))
local macro_rules | `(tactic| walk_at "zDr") => `(tactic| first
  | with_reducible refine' dr_neg ?_
  | with_reducible refine' dr_slToL ?_
  | with_reducible refine' dr_slFrL ?_
  | with_reducible refine' dr_slAlL ?_
  | with_reducible refine' dr_slToT ?_
  | with_reducible refine' dr_slFrT ?_
  | with_reducible refine' dr_iadd ?_
  | with_reducible refine' dr_isub ?_
  | with_reducible refine' dr_bits ?_
  | ((with_reducible refine' dr_ixT ?hs ?_); (case hs => first | assumption | rfl))
  | ((with_reducible refine' dr_ixL ?hs ?_); (case hs => first | assumption | rfl))
  | ((with_reducible refine' dr_tup ?hs ?_); (case hs => first | exact small_len rfl | assumption))
  | ((with_reducible refine' dr_lst ?hs ?_); (case hs => first | exact small_len rfl | assumption)))
local macro_rules | `(tactic| walk_at "zE") => `(tactic| first
  | ((with_reducible show de _ (.Name _ _) _ _); walk_at "zEn")
  | ((with_reducible show de _ (.Call _ _ _ _) _ _); walk_at "zEc")
  | walk_at "zEo")
local macro_rules | `(tactic| walk_at "zD") => `(tactic| first
  | ((with_reducible show DR _ (R2l (wop _ (binaryOp _))) _ _); walk_at "zDb")
  | ((with_reducible show DR _ (R2l (wop _ (compareOp _))) _ _); walk_at "zDc")
  | ((with_reducible show DR _ (wcall _ _) _ _); walk_at "zDk")
  | walk_at "zDr")
local macro_rules | `(tactic| walk_at "z0") => `(tactic| first
  | ((with_reducible show dgs _ _ _ _); walk_at "zDG")
  | ((with_reducible show de _ _ _ _); walk_at "zE")
  | ((with_reducible show DR _ _ _ _); walk_at "zD")
  | ((with_reducible show ds _ _ _ _); walk_at "zS")
  | ((with_reducible show dt _ _ _ _); walk_at "zDT")
  | ((with_reducible show dw _ _ _ _); walk_at "zDW")
  | walk_at "zX")
local macro_rules | `(tactic| walk_at "z1") => `(tactic| first | walk_at "zB0" | walk_at "z0")
local macro_rules | `(tactic| walk_at "z") => `(tactic| repeat walk_at "z0")
local macro_rules | `(tactic| walk_at "zz") => `(tactic| repeat walk_at "z1")
local macro_rules | `(tactic| walk_at "zdi") => `(tactic| first
  | ((with_reducible refine' di_range1 ?_ ?hg ?hm ?ha ?hs); (case hg => rfl); (case hm => exact T.b_range); (case ha => walk_at "zpa"); (case hs => rfl))
  | ((with_reducible refine' di_range2 ?_ ?hg ?hm ?ha ?hs ?hs2); (case hg => rfl); (case hm => exact T.b_range); (case ha => walk_at "zpa"); (case hs => rfl); (case hs2 => rfl))
  | with_reducible refine' di_seq ?_)
local macro_rules | `(tactic| walk_at "zlc") => `(tactic| ((first
  | ((with_reducible refine' ds_asgLcF ?hy ?hi ?ht ?_ ?hb ?ok ?hc ?hN ?hx ?hf ?hs); (case hy => walk_at "znth"); (case hi => walk_at "znth"); (case ht => first | exact Tests.nil | exact Tests.one); (case hb => walk_at "zblk"); (case ok => rfl); (case hc => rfl); (case hN => exact nd); (case hx => rfl); (case hf => rfl); (case hs => exact fun _ => rfl))
  | ((with_reducible refine' de_lcF ?hi ?ht ?_ ?hb ?ok ?hc ?hN ?hs); (case hi => walk_at "znth"); (case ht => first | exact Tests.nil | exact Tests.one); (case hb => walk_at "zblk"); (case ok => rfl); (case hc => rfl); (case hN => exact nd); (case hs => exact fun _ => rfl))); (walk_at "zdi"); (walk_at "z")))
local macro_rules | `(tactic| walk_at "zfor") => `(tactic| (((with_reducible refine' ds_for ?_ ?hp ?hc ?hs); (case hp => exact passes_f); (case hc => rfl); (case hs => exact fun _ => rfl)); (walk_at "zdi"); (walk_at "z")))
local macro_rules | `(tactic| walk_at "zgt") => `(tactic| (((with_reducible refine' dgt_name ?hi ?_ ?hN ?hx ?hf); (case hi => walk_at "znth"); (case hN => exact nd); (case hx => walk_at "zloc"); (case hf => walk_at "zloc")); ((with_reducible refine' put_go ?hp ?_); (case hp => walk_at "zset"))))
local macro_rules | `(tactic| walk_at "zaf") => `(tactic| (((with_reducible refine' ds_asg ?hi ?_ ?hN ?hx ?hs ?hf); (case hi => walk_at "znth"); (case hN => exact nd); (case hx => walk_at "zloc"); (case hs => rfl); (case hf => walk_at "zloc")); (with_reducible refine' de_fast ?_); (walk_at "z")))
local macro_rules | `(tactic| walk_at "zlp") => `(tactic| ((((with_reducible refine' de_lcP ?hi ?_ ?hb ?ok ?hc ?hN ?hs); (case hi => walk_at "znth"); (case hb => walk_at "zblk"); (case ok => rfl); (case hc => rfl); (case hN => exact nd); (case hs => exact fun _ => rfl))); (walk_at "zdi"); (walk_at "z")))
local macro_rules | `(tactic| walk_at "zgp") => `(tactic| ((with_reducible refine' dgt_pair ?hi ?hj ?_ ?hN ?hc ?hx ?hf ?hy ?hg ?hn ?hst ?hs1 ?hs2); (case hi => walk_at "znth"); (case hj => walk_at "znth"); (case hN => exact nd); (case hc => rfl); (case hx => walk_at "zloc"); (case hf => walk_at "zloc"); (case hy => walk_at "zloc"); (case hg => walk_at "zloc"); (case hn => rfl); (case hst => rfl); (case hs1 => rfl); (case hs2 => rfl); ((with_reducible refine' put_go ?hp ?_); (case hp => walk_at "zset")); ((with_reducible refine' put_go ?hp ?_); (case hp => walk_at "zset"))))
local macro_rules | `(tactic| walk_at "zcall") => `(tactic| first
  | ((with_reducible refine' de_calP (x := "start_behind") ?C ?hr ?hj ?tk ?_ ?hg ?ha ?z1 ?z2 ?z3); (case C => exact C_start_behind); (case hr => exact hr); (case hj => first | decide | exact Nat.le_refl _ | omega); (case tk => first | exact takes_f | exact takes0); (case hg => rfl); (case ha => walk_at "zpa"); (case z1 => decide); (case z2 => rfl); (case z3 => rfl))
  | ((with_reducible refine' de_calP (x := "end_with") ?C ?hr ?hj ?tk ?_ ?hg ?ha ?z1 ?z2 ?z3); (case C => exact C_end_with); (case hr => exact hr); (case hj => first | decide | exact Nat.le_refl _ | omega); (case tk => first | exact takes_f | exact takes0); (case hg => rfl); (case ha => walk_at "zpa"); (case z1 => decide); (case z2 => rfl); (case z3 => rfl))
  | ((with_reducible refine' de_calP (x := "things_in") ?C ?hr ?hj ?tk ?_ ?hg ?ha ?z1 ?z2 ?z3); (case C => exact C_things_in); (case hr => exact hr); (case hj => first | decide | exact Nat.le_refl _ | omega); (case tk => first | exact takes_f | exact takes0); (case hg => rfl); (case ha => walk_at "zpa"); (case z1 => decide); (case z2 => rfl); (case z3 => rfl))
  | ((with_reducible refine' de_calP (x := "least_behind") ?C ?hr ?hj ?tk ?_ ?hg ?ha ?z1 ?z2 ?z3); (case C => exact C_least_behind); (case hr => exact hr); (case hj => first | decide | exact Nat.le_refl _ | omega); (case tk => first | exact takes_f | exact takes0); (case hg => rfl); (case ha => walk_at "zpa"); (case z1 => decide); (case z2 => rfl); (case z3 => rfl))
  | ((with_reducible refine' de_calP (x := "judge_ends") ?C ?hr ?hj ?tk ?_ ?hg ?ha ?z1 ?z2 ?z3); (case C => exact C_judge_ends); (case hr => exact hr); (case hj => first | decide | exact Nat.le_refl _ | omega); (case tk => first | exact takes_f | exact takes0); (case hg => rfl); (case ha => walk_at "zpa"); (case z1 => decide); (case z2 => rfl); (case z3 => rfl))
  | ((with_reducible refine' de_calP (x := "_law_source") ?C ?hr ?hj ?tk ?_ ?hg ?ha ?z1 ?z2 ?z3); (case C => exact C_law_source); (case hr => exact hr); (case hj => first | decide | exact Nat.le_refl _ | omega); (case tk => first | exact takes_f | exact takes0); (case hg => rfl); (case ha => walk_at "zpa"); (case z1 => decide); (case z2 => rfl); (case z3 => rfl))
  | ((with_reducible refine' de_calM (x := "_law_draw") ?C ?hr ?hj ?tk ?hi ?hd ?_ ?hg ?hv ?ha ?z1 ?z2 ?z3 ?z4 ?z5); (case C => exact C_law_draw); (case hr => exact hr); (case hj => first | decide | exact Nat.le_refl _ | omega); (case tk => first | exact takes_f | exact takes0); (case hi => walk_at "znth"); (case hd => rfl); (case hg => rfl); (case hv => walk_at "zvis"); (case ha => walk_at "zpa"); (case z1 => decide); (case z2 => decide); (case z3 => decide); (case z4 => rfl); (case z5 => rfl))
  | ((with_reducible refine' de_calP (x := "_law_is_number") ?C ?hr ?hj ?tk ?_ ?hg ?ha ?z1 ?z2 ?z3); (case C => exact C_law_is_number); (case hr => exact hr); (case hj => first | decide | exact Nat.le_refl _ | omega); (case tk => first | exact takes_f | exact takes0); (case hg => rfl); (case ha => walk_at "zpa"); (case z1 => decide); (case z2 => rfl); (case z3 => rfl))
  | ((with_reducible refine' de_calP (x := "_law_plain") ?C ?hr ?hj ?tk ?_ ?hg ?ha ?z1 ?z2 ?z3); (case C => exact C_law_plain); (case hr => exact hr); (case hj => first | decide | exact Nat.le_refl _ | omega); (case tk => first | exact takes_f | exact takes0); (case hg => rfl); (case ha => walk_at "zpa"); (case z1 => decide); (case z2 => rfl); (case z3 => rfl))
  | ((with_reducible refine' de_calM (x := "_law_things") ?C ?hr ?hj ?tk ?hi ?hd ?_ ?hg ?hv ?ha ?z1 ?z2 ?z3 ?z4 ?z5); (case C => exact C_law_things); (case hr => exact hr); (case hj => first | decide | exact Nat.le_refl _ | omega); (case tk => first | exact takes_f | exact takes0); (case hi => walk_at "znth"); (case hd => rfl); (case hg => rfl); (case hv => walk_at "zvis"); (case ha => walk_at "zpa"); (case z1 => decide); (case z2 => decide); (case z3 => decide); (case z4 => rfl); (case z5 => rfl))
  | ((with_reducible refine' de_calP (x := "_law_orders") ?C ?hr ?hj ?tk ?_ ?hg ?ha ?z1 ?z2 ?z3); (case C => exact C_law_orders); (case hr => exact hr); (case hj => first | decide | exact Nat.le_refl _ | omega); (case tk => first | exact takes_f | exact takes0); (case hg => rfl); (case ha => walk_at "zpa"); (case z1 => decide); (case z2 => rfl); (case z3 => rfl))
  | ((with_reducible refine' de_calP (x := "_law_end") ?C ?hr ?hj ?tk ?_ ?hg ?ha ?z1 ?z2 ?z3); (case C => exact C_law_end); (case hr => exact hr); (case hj => first | decide | exact Nat.le_refl _ | omega); (case tk => first | exact takes_f | exact takes0); (case hg => rfl); (case ha => walk_at "zpa"); (case z1 => decide); (case z2 => rfl); (case z3 => rfl))
  | ((with_reducible refine' de_calP (x := "_law_table") ?C ?hr ?hj ?tk ?_ ?hg ?ha ?z1 ?z2 ?z3); (case C => exact C_law_table); (case hr => exact hr); (case hj => first | decide | exact Nat.le_refl _ | omega); (case tk => first | exact takes_f | exact takes0); (case hg => rfl); (case ha => walk_at "zpa"); (case z1 => decide); (case z2 => rfl); (case z3 => rfl))
  | ((with_reducible refine' de_calP (x := "_law_worked_out") ?C ?hr ?hj ?tk ?_ ?hg ?ha ?z1 ?z2 ?z3); (case C => exact C_law_worked_out); (case hr => exact hr); (case hj => first | decide | exact Nat.le_refl _ | omega); (case tk => first | exact takes_f | exact takes0); (case hg => rfl); (case ha => walk_at "zpa"); (case z1 => decide); (case z2 => rfl); (case z3 => rfl))
  | ((with_reducible refine' de_calM (x := "_law_other_things") ?C ?hr ?hj ?tk ?hi ?hd ?_ ?hg ?hv ?ha ?z1 ?z2 ?z3 ?z4 ?z5); (case C => exact C_law_other_things); (case hr => exact hr); (case hj => first | decide | exact Nat.le_refl _ | omega); (case tk => first | exact takes_f | exact takes0); (case hi => walk_at "znth"); (case hd => rfl); (case hg => rfl); (case hv => walk_at "zvis"); (case ha => walk_at "zpa"); (case z1 => decide); (case z2 => decide); (case z3 => decide); (case z4 => rfl); (case z5 => rfl))
  | ((with_reducible refine' de_calM (x := "_law_beside") ?C ?hr ?hj ?tk ?hi ?hd ?_ ?hg ?hv ?ha ?z1 ?z2 ?z3 ?z4 ?z5); (case C => exact C_law_beside); (case hr => exact hr); (case hj => first | decide | exact Nat.le_refl _ | omega); (case tk => first | exact takes_f | exact takes0); (case hi => walk_at "znth"); (case hd => rfl); (case hg => rfl); (case hv => walk_at "zvis"); (case ha => walk_at "zpa"); (case z1 => decide); (case z2 => decide); (case z3 => decide); (case z4 => rfl); (case z5 => rfl))
  | ((with_reducible refine' de_calP (x := "_law_due") ?C ?hr ?hj ?tk ?_ ?hg ?ha ?z1 ?z2 ?z3); (case C => exact C_law_due); (case hr => exact hr); (case hj => first | decide | exact Nat.le_refl _ | omega); (case tk => first | exact takes_f | exact takes0); (case hg => rfl); (case ha => walk_at "zpa"); (case z1 => decide); (case z2 => rfl); (case z3 => rfl))
  | ((with_reducible refine' de_calP (x := "_law_right") ?C ?hr ?hj ?tk ?_ ?hg ?ha ?z1 ?z2 ?z3); (case C => exact C_law_right); (case hr => exact hr); (case hj => first | decide | exact Nat.le_refl _ | omega); (case tk => first | exact takes_f | exact takes0); (case hg => rfl); (case ha => walk_at "zpa"); (case z1 => decide); (case z2 => rfl); (case z3 => rfl)))
/-! ### the law's source of numbers -/
def SrcP : List D → Prop := fun ds => ∃ (cells : List Int) (place digits count mixed : Int), ds = [.lst (cells.map .int), .int place, .int digits, .int count, .int mixed] ∧ 0 < cells.length ∧ cells.length ≤ 100 ∧ (∀ c ∈ cells, 0 ≤ c) ∧ 0 ≤ place ∧ 0 ≤ digits ∧ 0 ≤ count
def s_law_source : PSp := fun ds Ψ _ => ∃ ns : List Int, ds = [.klst (ns.map .int)] ∧ ns.length ≤ 63 ∧ ∀ p xs, SrcP xs → Ψ (.own p (.lst xs))
def s_law_draw : MSp := fun c ds Ψ _ => ∃ n : Int, c = .ab SrcP ∧ ds = [.int n] ∧ (1 ≤ n ∧ n < 1073741824) ∧ ∀ m, 0 ≤ m → m < n → Ψ (.val (.int m)) (.ab SrcP)
theorem draw_go {n : Int} {Ψ : DV → Cell → Prop} {Ξ : Exn → Cell → Prop} (h1 : 1 ≤ n ∧ n < 1073741824) (h : ∀ m, 0 ≤ m → m < n → Ψ (.val (.int m)) (.ab SrcP)) : s_law_draw (.ab SrcP) [.int n] Ψ Ξ := ⟨n, rfl, rfl, h1, h⟩
theorem ints_get {ns : List Int} {i : Nat} {d : D} (h : (ns.map D.int)[i]? = some d) : ∃ n, ns[i]? = some n ∧ d = .int n := by
  rw [List.getElem?_map] at h
  cases e : ns[i]? with
  | none => rw [e] at h; cases h
  | some n =>
    rw [e] at h
    exact ⟨n, rfl, (Option.some.inj h).symm⟩
theorem atI_ints {ns : List Int} {i : Int} (h0 : 0 ≤ i) (h1 : i < ns.length) : ∃ n, n ∈ ns ∧ atI (ns.map D.int) i = some (.int n) := by
  obtain ⟨k, rfl⟩ : ∃ k : Nat, i = (k : Int) := ⟨i.toNat, (Int.toNat_of_nonneg h0).symm⟩
  have hk : k < ns.length := by omega
  refine ⟨ns[k], List.getElem_mem hk, atI_nat ?_⟩
  rw [List.getElem?_map, List.getElem?_eq_getElem hk]
  rfl

theorem toNat_cast (i : Int) (h : 0 ≤ i) : (i.toNat : Int) = i := Int.toNat_of_nonneg h
def isNum : D → Bool
  | .int _ => true
  | _ => false
def s_law_is_number : PSp := fun ds Ψ _ => ∃ d a, ds = [d] ∧ tyD d = some a ∧ Ψ (.val (.bl (isNum d)))
mutual
def plainD : D → D
  | .lst ds => .tup [.bl true, .lst (plainDs ds)]
  | .klst ds => .tup [.bl true, .lst (plainDs ds)]
  | .tup ds => .tup [.bl false, .lst (plainDs ds)]
  | .bl b => .tup [.bl true, .bl b]
  | d => .tup [.bl false, d]
def plainDs : List D → List D
  | [] => []
  | d :: ds => plainD d :: plainDs ds
end
theorem plainDs_map : ∀ ds : List D, plainDs ds = ds.map plainD
  | [] => rfl
  | d :: ds => by rw [plainDs, plainDs_map ds]; rfl
def isAtom : D → Bool
  | .non | .bl _ | .int _ | .str _ | .dic _ _ => true
  | _ => false
def isBl : D → Bool
  | .bl _ => true
  | _ => false
theorem atom_is {d : D} (h : isAtom d = true) : ∃ a, tyD d = some a ∧ kitB a "list" = some false ∧ kitB a "tuple" = some false ∧ kitB a "bool" = some (isBl d) ∧ plainD d = .tup [.bl (isBl d), d] := by
  cases d with
  | non => exact ⟨"NoneType", rfl, by decide +kernel, by decide +kernel, by decide +kernel, rfl⟩
  | bl b => exact ⟨"bool", rfl, by decide +kernel, by decide +kernel, by show kitB "bool" "bool" = some true; decide +kernel, rfl⟩
  | int i => exact ⟨"int", rfl, by decide +kernel, by decide +kernel, by show kitB "int" "bool" = some false; decide +kernel, rfl⟩
  | str s => exact ⟨"str", rfl, by decide +kernel, by decide +kernel, by show kitB "str" "bool" = some false; decide +kernel, rfl⟩
  | dic ks ds => exact ⟨"dict", rfl, by decide +kernel, by decide +kernel, by show kitB "dict" "bool" = some false; decide +kernel, rfl⟩
  | lst _ => cases h
  | klst _ => cases h
  | tup _ => cases h
  | raw _ => cases h
  | obj _ _ _ => cases h
/-- of at most that depth, of kinds that are known -/
def deep : Nat → D → Prop
  | 0, d => isAtom d = true
  | n + 1, d => isAtom d = true ∨ ∃ xs, (d = .lst xs ∨ d = .tup xs) ∧ xs.length < sizeLine ∧ ∀ x ∈ xs, deep n x
def s_law_plain (n : Nat) : PSp := fun ds Ψ _ => ∃ d, ds = [d] ∧ deep n d ∧ Ψ (.val (plainD d))
/-! ### packing -/
abbrev thD (t : Th) : D := .tup [.int t.1, .int t.2]
abbrev nD (k : Nat) : D := .int (k : Int)
abbrev oD (o : List Nat) : D := .tup (o.map nD)
def tsf (ts : List Th) (k : Nat) : Th := ts.getD k (0, 1)
def IsTh (d : D) (ts : List Th) : Prop := d = .tup (ts.map thD) ∨ d = .lst (ts.map thD)
def s_start_behind : PSp := fun ds Ψ _ => ∃ (e : Int) (a : Int), ds = [.int e, .int a] ∧ (0 ≤ e ∧ e < 1073741824) ∧ (1 ≤ a ∧ a ≤ 16) ∧ Ψ (.val (.int ((e + a - 1) / a * a)))
def s_end_with : PSp := fun ds Ψ _ => ∃ (e : Int) (t : Th), ds = [.int e, thD t] ∧ (0 ≤ e ∧ e < 1073741824) ∧ thOk t ∧ Ψ (.val (.int (ew e t)))
def s_things_in : PSp := fun ds Ψ _ => ∃ c : Nat, ds = [nD c] ∧ c < 64 ∧ ∀ p, Ψ (.own p (.lst ((bits c).map nD)))
def s_without : PSp := fun ds Ψ _ => ∃ (S : List Nat) (k : Nat), ds = [.lst (S.map nD), nD k] ∧ S.length ≤ 6 ∧ ∀ p, Ψ (.own p (.lst ((rem S k).map nD)))
def s_least_behind : PSp := fun ds Ψ _ => ∃ (tab : List Int) (ts : List Th) (c : Nat) (d : D), ds = [.lst (tab.map .int), d, nD c] ∧ IsTh d ts ∧ (c < 64 ∧ c ≠ 0 ∧ c ≤ tab.length ∧ ∀ k ∈ bits c, k < ts.length) ∧ (∀ e ∈ tab, 0 ≤ e ∧ e < 1073741824) ∧ (∀ t ∈ ts, thOk t) ∧ ∀ m, IsMin m (lbs tab (tsf ts) c) → Ψ (.val (.int m))
def s_least_ends : PSp := fun ds Ψ _ => ∃ (start : Int) (d : D) (ts : List Th), ds = [.int start, d] ∧ IsTh d ts ∧ ts.length ≤ 6 ∧ (0 ≤ start ∧ start < 1048576) ∧ (∀ t ∈ ts, thOk t) ∧ ∀ p tab, tab.length = 2 ^ ts.length → Tab start (tsf ts) tab → Ψ (.own p (.lst (tab.map .int)))
def s_judge_ends : PSp := fun ds Ψ _ => ∃ (start : Int) (ts : List Th) (tab : List Int), ds = [.int start, .tup (ts.map thD), .lst (tab.map .int)] ∧ ts.length ≤ 6 ∧ (0 ≤ start ∧ start < 1048576) ∧ (∀ t ∈ ts, thOk t) ∧ tab.length = 2 ^ ts.length ∧ Tab start (tsf ts) tab ∧ Ψ (.val .non)
def s_least_end : PSp := fun ds Ψ _ => ∃ (start : Int) (ts : List Th) (S : List Nat), ds = [.int start, .tup (ts.map thD), .lst (S.map nD)] ∧ S.length ≤ 6 ∧ (∀ k ∈ S, k < ts.length) ∧ (0 ≤ start ∧ start < 1048576) ∧ (∀ t ∈ ts, thOk t) ∧ ∀ m, Bst start (S.map (tsf ts)) m → Ψ (.val (.int m))
def s_first_order : PSp := fun ds Ψ _ => ∃ (start : Int) (ts : List Th) (c : Nat), ds = [.int start, .tup (ts.map thD), nD c] ∧ ts.length ≤ 6 ∧ c < 2 ^ ts.length ∧ (0 ≤ start ∧ start < 100000) ∧ (∀ t ∈ ts, thOk t) ∧
  ∀ l g, Bst start ((bits c).map (tsf ts)) g → (R (bits c) (bits c).length []).find? (isE start (tsf ts) g) = some l → Ψ (.val (oD l))
/-! ### the law's own -/
def s_law_things : MSp := fun c ds Ψ _ => ∃ n : Int, c = .ab SrcP ∧ ds = [.int n] ∧ (0 ≤ n ∧ n ≤ 6) ∧ ∀ ts : List Th, (ts.length : Int) = n → (∀ t ∈ ts, thOk t ∧ t.1 ≤ 120) → Ψ (.val (.tup (ts.map thD))) (.ab SrcP)
def s_law_orders : PSp := fun ds Ψ _ => ∃ (S : List Nat), ds = [.lst (S.map nD)] ∧ S.length ≤ 6 ∧ ∀ p, Ψ (.own p (.lst ((R S S.length []).map oD)))
def s_law_end : PSp := fun ds Ψ _ => ∃ (start : Int) (d : D) (ts : List Th) (o : List Nat), ds = [.int start, d, oD o] ∧ IsTh d ts ∧ o.length ≤ 6 ∧ (∀ k ∈ o, k < ts.length) ∧ (0 ≤ start ∧ start < 1048576) ∧ (∀ t ∈ ts, thOk t) ∧ Ψ (.val (.int (endT start (o.map (tsf ts)))))
structure Due (start : Int) (ts : List Th) (tab : List Int) (ords : List (List Nat)) : Prop where
  tl : tab.length = 2 ^ ts.length
  ol : ords.length = 2 ^ ts.length
  tb : Tab start (tsf ts) tab
  ord : ∀ (c : Nat) b l, tab[c]? = some b → ords[c]? = some l → (R (bits c) (bits c).length []).find? (isE start (tsf ts) b) = some l
abbrev dueD (tab : List Int) (ords : List (List Nat)) : D := .tup [.lst (tab.map .int), .lst (ords.map oD)]
def s_law_due : PSp := fun ds Ψ _ => ∃ (start : Int) (ts : List Th), ds = [.int start, .tup (ts.map thD)] ∧ ts.length ≤ 6 ∧ (0 ≤ start ∧ start < 100000) ∧ (∀ t ∈ ts, thOk t) ∧ ∀ tab ords, Due start ts tab ords → Ψ (.val (dueD tab ords))
def s_law_right : PSp := fun ds Ψ _ => ∃ tab : List Int, ds = [.lst (tab.map .int), .lst (tab.map .int)] ∧ tab.length ≤ 64 ∧ Ψ (.val (.bl true))
def s_law_start : MSp := fun c ds Ψ _ => c = .ab SrcP ∧ ds = [] ∧ ∀ e : Int, 0 ≤ e → e < 100000 → Ψ (.val (.int e)) (.ab SrcP)
def s_law_asked : PSp := fun ds Ψ _ => ∃ (start : Int) (ts : List Th) (tab : List Int) (ords : List (List Nat)) (sets : List Nat), ds = [.int start, .tup (ts.map thD), dueD tab ords, .lst (sets.map nD)] ∧ ts.length ≤ 6 ∧ (0 ≤ start ∧ start < 100000) ∧ (∀ t ∈ ts, thOk t) ∧ Due start ts tab ords ∧ sets.length ≤ 64 ∧ (∀ c ∈ sets, c < 2 ^ ts.length) ∧ Ψ (.val (.bl true))
def s_law : PSp := fun ds Ψ _ => ∃ ns : List Int, ds = [.klst (ns.map .int)] ∧ ns.length ≤ 63 ∧ Ψ (.val (.bl true))
theorem map_get {α : Type} {f : α → D} {as : List α} {i : Nat} {d : D} (h : (as.map f)[i]? = some d) : ∃ a, as[i]? = some a ∧ d = f a := by
  rw [List.getElem?_map] at h
  cases e : as[i]? with
  | none => rw [e] at h; cases h
  | some n =>
    rw [e] at h
    exact ⟨n, rfl, (Option.some.inj h).symm⟩
theorem atI_map {α : Type} {f : α → D} {as : List α} {k : Nat} (h : k < as.length) : atI (as.map f) (k : Int) = some (f as[k]) := atI_nat (by rw [List.getElem?_map, List.getElem?_eq_getElem h]; rfl)
theorem at_tab {tab : List Int} {c k : Nat} (hc : c < 64) (hl : c ≤ tab.length) (hk : k ∈ bits c) : atI (tab.map D.int) ((c : Int) - 1 * 2 ^ ((k : Int)).toNat) = some (.int (tab.getD (c - 2 ^ k) 0)) ∧ tab.getD (c - 2 ^ k) 0 ∈ tab := by
  obtain ⟨h1, _⟩ := bits_sub c hc k hk
  have hp : 0 < 2 ^ k := Nat.pow_pos (by decide)
  have hlt : c - 2 ^ k < tab.length := by omega
  have e : (c : Int) - 1 * 2 ^ ((k : Int)).toNat = ((c - 2 ^ k : Nat) : Int) := by
    rw [Int.toNat_natCast, Int.one_mul, Int.ofNat_sub h1]
    push_cast
    rfl
  have g : tab.getD (c - 2 ^ k) 0 = tab[c - 2 ^ k] := by
    rw [List.getD_eq_getElem?_getD, List.getElem?_eq_getElem hlt]; rfl
  rw [e, g]
  exact ⟨atI_map hlt, List.getElem_mem hlt⟩
theorem at_th {ts : List Th} {k : Nat} (hk : k < ts.length) : atI (ts.map thD) (k : Int) = some (thD (tsf ts k)) ∧ tsf ts k ∈ ts := by
  have g : tsf ts k = ts[k] := by
    unfold tsf
    rw [List.getD_eq_getElem?_getD, List.getElem?_eq_getElem hk]; rfl
  rw [g]
  exact ⟨atI_map hk, List.getElem_mem hk⟩
theorem tsf_ok {ts : List Th} (ok : ∀ t ∈ ts, thOk t) {S : List Nat} (hS : ∀ k ∈ S, k < ts.length) : ∀ t ∈ S.map (tsf ts), thOk t := fun t ht => by
  obtain ⟨k, hk, rfl⟩ := List.mem_map.mp ht
  exact ok _ (at_th (hS k hk)).2
theorem pow6 {n : Nat} (h : n ≤ 6) : 2 ^ n ≤ 64 ∧ 0 < 2 ^ n := ⟨Nat.pow_le_pow_right (by decide) h, Nat.pow_pos (by decide)⟩
theorem shl1 (n : Nat) : (1 : Int) * 2 ^ ((n : Int)).toNat = ((2 ^ n : Nat) : Int) := by
  rw [Int.toNat_natCast, Int.one_mul]; push_cast; rfl
theorem tab_bnd {start : Int} {ts : List Th} {tab : List Int} (h : Tab start (tsf ts) tab) (hs : 0 ≤ start ∧ start < 1048576) (ok : ∀ t ∈ ts, thOk t) (hl : ts.length ≤ 6) (ht : tab.length ≤ 2 ^ ts.length) : ∀ e ∈ tab, 0 ≤ e ∧ e < 1073741824 := fun e he => by
  obtain ⟨i, hi⟩ := List.getElem?_of_mem he
  have hb := h.at_ i e hi
  have hlt : i < 2 ^ ts.length := Nat.lt_of_lt_of_le (List.getElem?_eq_some_iff.mp hi).1 ht
  have b := hb.bnd (fun t ht => by
    obtain ⟨k, hk, rfl⟩ := List.mem_map.mp ht
    have := bits_lt _ (by omega) i hlt k hk
    unfold tsf
    rw [List.getD_eq_getElem?_getD, List.getElem?_eq_getElem this]
    exact ok _ (List.getElem_mem this)) hs.1
  have c := bits_count i
  rw [List.length_map] at b
  omega
theorem vOf_ints : ∀ o : List Nat, (o.map nD).mapM vOf = some (o.map fun k : Nat => V.int (k : Int))
  | [] => rfl
  | k :: o => by
    rw [List.map_cons, List.mapM_cons, vOf_ints o]
    rfl
theorem inV_ints (k : Nat) : ∀ o : List Nat, inV (.int (k : Int)) (o.map fun k : Nat => V.int (k : Int)) = o.contains k
  | [] => rfl
  | j :: o => by
    have ih := inV_ints k o
    unfold inV at ih ⊢
    rw [List.map_cons, List.any_cons, ih, List.contains_cons]
    congr 1
    show decide ((j : Int) = (k : Int)) = (k == j)
    by_cases h : k = j
    · subst h; simp
    · have : ¬ (j : Int) = (k : Int) := fun e => h (Int.ofNat.inj e).symm
      simp [h, this]
theorem ext_len {S : List Nat} (hS : S.length ≤ 6) : ∀ F : List (List Nat), (ext S F).length ≤ 6 * F.length
  | [] => by simp [ext]
  | o :: F => by
    have ih := ext_len hS F
    unfold ext at ih ⊢
    rw [List.flatMap_cons, List.length_append, List.length_cons, List.length_map]
    have := List.length_filter_le (fun n => !o.contains n) S
    omega
theorem R_len {S : List Nat} (hS : S.length ≤ 6) : ∀ j, j ≤ 6 → (R S j []).length ≤ 46656 := by
  have key : ∀ j, (R S j []).length ≤ 6 ^ j := fun j => by
    induction j with
    | zero => simp [R]
    | succ j ih =>
      rw [← ext_R]
      have := ext_len hS (R S j [])
      rw [Nat.pow_succ]
      omega
  intro j hj
  exact Nat.le_trans (key j) (Nat.le_trans (Nat.pow_le_pow_right (by decide) hj) (by decide))
theorem ext_snoc (S : List Nat) (F : List (List Nat)) (o : List Nat) : ext S (F ++ [o]) = ext S F ++ (lft S o).map fun n => o ++ [n] := by
  unfold ext
  rw [List.flatMap_append, List.flatMap_singleton]
theorem R_mlen {S : List Nat} (nd : S.Nodup) {o : List Nat} (h : o ∈ R S S.length []) : o.Perm S := by
  obtain ⟨y, e, p⟩ := (R_mem nd S.length [] o (by rw [lft_nil])).mp h
  rw [lft_nil] at p
  have e : o = y := e
  rw [e]; exact p
theorem R_short : ∀ {S : List Nat} {j : Nat} {o x : List Nat}, x ∈ R S j o → x.length = o.length + j
  | S, 0, o, x, h => by rw [List.mem_singleton.mp h]; rfl
  | S, j + 1, o, x, h => by
    obtain ⟨n, _, hx⟩ := List.mem_flatMap.mp h
    have := R_short hx
    rw [List.length_append, List.length_singleton] at this
    omega
theorem plain_nats (S : List Nat) : plainDs (S.map nD) = S.map fun k => .tup [.bl false, nD k] := by
  rw [plainDs_map, List.map_map]; rfl
theorem ok_plain_oD (o : List Nat) : okD 3 (plainD (oD o)) := by
  show okD 3 (.tup [.bl false, .lst (plainDs (o.map nD))])
  rw [plain_nats]
  intro x hx
  rcases List.mem_cons.mp hx with rfl | hx
  · exact trivial
  · rw [List.mem_singleton.mp hx]
    intro y hy
    obtain ⟨k, _, rfl⟩ := List.mem_map.mp hy
    intro z hz
    rcases List.mem_cons.mp hz with rfl | hz
    · exact trivial
    · rw [List.mem_singleton.mp hz]; exact trivial
theorem ok_ints {n : Nat} (ns : List Int) : okD (n + 1) (.lst (ns.map D.int)) := fun x hx => by
  obtain ⟨k, _, rfl⟩ := List.mem_map.mp hx
  cases n <;> exact trivial
theorem all_true {α : Type} : ∀ as : List α, (as.map fun _ => true).all id = true
  | [] => rfl
  | a :: as => by rw [List.map_cons, List.all_cons, all_true as]; rfl
theorem deep_oD (o : List Nat) (h : o.length ≤ 6) : deep 1 (oD o) := .inr ⟨_, .inr rfl, by rw [List.length_map]; exact Nat.lt_of_le_of_lt h (by decide), fun x hx => by
  obtain ⟨k, _, rfl⟩ := List.mem_map.mp hx
  exact rfl⟩
theorem nats_of {N : Nat} : ∀ acc : List D, (∀ e ∈ acc, ∃ c : Nat, e = nD c ∧ c < N) → ∃ S : List Nat, acc = S.map nD ∧ (∀ c ∈ S, c < N) ∧ S.length = acc.length
  | [], _ => ⟨[], rfl, by simp, rfl⟩
  | e :: acc, h => by
    obtain ⟨c, rfl, hc⟩ := h e (.head _)
    obtain ⟨S, rfl, hS, hl⟩ := nats_of acc fun x hx => h x (.tail _ hx)
    exact ⟨c :: S, rfl, fun x hx => by
      rcases List.mem_cons.mp hx with rfl | hx
      · exact hc
      · exact hS x hx, by rw [List.length_cons, hl, List.length_cons]⟩
theorem atI_last {tab : List Int} {n : Nat} (h : tab.length = n) (h0 : 0 < n) : atI (tab.map D.int) (-1) = some (.int (tab[n - 1]'(by omega))) := by
  unfold atI ixN
  rw [List.length_map, if_neg (by decide), if_pos (by omega)]
  show (tab.map D.int)[(-1 + (tab.length : Int)).toNat]? = _
  rw [show (-1 + (tab.length : Int)).toNat = n - 1 by omega, List.getElem?_map, List.getElem?_eq_getElem (by omega)]
  rfl

/-! ### spoilt tables -/
abbrev big (e : Int) : Prop := 0 ≤ e ∧ e < 1073741824
/-- where two tables part first -/
inductive Parts (rows right : List Int) : D → Prop where
  | len (h : rows.length ≠ right.length) : Parts rows right (.int 0)
  | at_ (i : Nat) (h : rows.length = right.length) (hi : i < right.length) (hn : rows[i]? ≠ right[i]?) (hb : ∀ j, j < i → rows[j]? = right[j]?) : Parts rows right (nD i)
  | same (h : rows = right) : Parts rows right .non
theorem Parts.uniq {rows right : List Int} {d e : D} (h : Parts rows right d) (h' : Parts rows right e) : d = e := by
  cases h with
  | len h =>
    cases h' with
    | len _ => rfl
    | at_ i h2 => exact absurd h2 h
    | same h2 => exact absurd (by rw [h2]) h
  | at_ i h hi hn hb =>
    cases h' with
    | len h2 => exact absurd h h2
    | at_ j h2 hj hn2 hb2 =>
      have : i = j := by
        by_cases a : i < j
        · exact absurd (hb2 i a) hn
        · by_cases b : j < i
          · exact absurd (hb j b) hn2
          · omega
      rw [this]
    | same h2 => exact absurd (by rw [h2]) hn
  | same h =>
    cases h' with
    | len h2 => exact absurd (by rw [h]) h2
    | at_ j h2 hj hn2 hb2 => exact absurd (by rw [h]) hn2
    | same _ => rfl
theorem parts_end {rows right : List Int} (h : rows.length = right.length) (hb : ∀ j, j < right.length → rows[j]? = right[j]?) : Parts rows right .non := .same (by
  apply List.ext_getElem?
  intro i
  by_cases hi : i < right.length
  · exact hb i hi
  · rw [List.getElem?_eq_none (by omega), List.getElem?_eq_none (by omega)])
def s_judge_ends2 : PSp := fun ds Ψ _ => ∃ (start : Int) (ts : List Th) (rows right : List Int), ds = [.int start, .tup (ts.map thD), .lst (rows.map .int)] ∧ ts.length ≤ 6 ∧ (0 ≤ start ∧ start < 1048576) ∧ (∀ t ∈ ts, thOk t) ∧ right.length = 2 ^ ts.length ∧ Tab start (tsf ts) right ∧ (∀ e ∈ rows, big e) ∧ ∀ d, Parts rows right d → Ψ (.val d)
def s_law_table : PSp := fun ds Ψ _ => ∃ (start : Int) (d : D) (ts : List Th), ds = [.int start, d] ∧ IsTh d ts ∧ ts.length ≤ 6 ∧ (0 ≤ start ∧ start < 1048576) ∧ (∀ t ∈ ts, thOk t) ∧ ∀ p tab, tab.length = 2 ^ ts.length → Tab start (tsf ts) tab → Ψ (.own p (.lst (tab.map .int)))
def s_law_worked_out : PSp := fun ds Ψ _ => ∃ (rows : List Int) (d : D) (ts : List Th) (at_ : Nat), ds = [.lst (rows.map .int), d, nD at_] ∧ IsTh d ts ∧ ts.length ≤ 6 ∧ (∀ t ∈ ts, thOk t) ∧ rows.length = 2 ^ ts.length ∧ at_ < rows.length ∧ (∀ e ∈ rows, 0 ≤ e ∧ e < 1073000000) ∧
  ∀ (p : Addr) (r : List Int), r.length = rows.length → (∀ e ∈ r, 0 ≤ e ∧ e < 1073100000) → (∀ start, at_ = 0 → rows[0]? = some start → Tab start (tsf ts) r) → Ψ (.own p (.lst (r.map .int)))
def s_law_other_things : MSp := fun c ds Ψ _ => ∃ (start : Int) (ts : List Th), c = .ab SrcP ∧ ds = [.int start, .tup (ts.map thD)] ∧ ts.length ≤ 6 ∧ (0 ≤ start ∧ start < 1000000) ∧ (∀ t ∈ ts, thOk t ∧ t.1 ≤ 120) ∧ ∀ (p : Addr) (r : List Int), r.length = 2 ^ ts.length → (∀ e ∈ r, 0 ≤ e ∧ e < 10000000) → Ψ (.own p (.lst (r.map .int))) (.ab SrcP)
def s_law_beside : MSp := fun c ds Ψ _ => ∃ (start : Int) (ts : List Th) (right : List Int), c = .ab SrcP ∧ ds = [.int start, .tup (ts.map thD), .lst (right.map .int)] ∧ ts.length ≤ 6 ∧ (0 ≤ start ∧ start < 1000000) ∧ (∀ t ∈ ts, thOk t ∧ t.1 ≤ 120) ∧ right.length = 2 ^ ts.length ∧ Tab start (tsf ts) right ∧ ∀ (p : Addr) (r : List Int), r.length ≤ 65 → (∀ e ∈ r, big e) → Ψ (.own p (.lst (r.map .int))) (.ab SrcP)
def s_law_due2 : PSp := fun ds Ψ _ => ∃ (rows right : List Int), ds = [.lst (rows.map .int), .lst (right.map .int)] ∧ right.length ≤ 64 ∧ rows.length ≤ 65 ∧ ∀ d, Parts rows right d → Ψ (.val d)
def s_law_right2 : PSp := fun ds Ψ _ => ∃ d : D, ds = [d, d] ∧ (d = .non ∨ ∃ i : Int, d = .int i) ∧ Ψ (.val (.bl true))
theorem dr_lenTh {X : Cx} {Ψ : DV → Prop} {d : D} {ts : List Th} (hd : IsTh d ts) (h : Ψ (.val (.int ts.length))) : DR X.K (wcall X (.builtin "len")) [d] Ψ := by
  rcases hd with rfl | rfl
  · exact dr_lenMT h
  · exact dr_lenM h
theorem lbs_take {r : List Int} {ts : Nat → Th} {c : Nat} (hc : c < 64) : lbs r ts c = lbs (r.take c) ts c := by
  apply List.map_congr_left
  intro k hk
  have h2 : 0 < 2 ^ k := Nat.pow_pos (by decide)
  obtain ⟨h1, _⟩ := bits_sub c hc k hk
  rw [List.getD_eq_getElem?_getD, List.getD_eq_getElem?_getD, List.getElem?_take, if_pos (by omega)]
theorem take_set {r : List Int} {c : Nat} {m : Int} (h : c < r.length) : (r.set c m).take (c + 1) = r.take c ++ [m] := by
  rw [List.take_succ, List.getElem?_set_self h, List.take_set_of_le (Nat.le_refl _)]
  rfl
theorem mem_bits {c k : Nat} (hk : k < 6) (h : c / 2 ^ k % 2 = 1) : k ∈ bits c := by
  unfold bits
  rw [List.mem_filter]
  exact ⟨List.mem_range.mpr hk, by rw [h]; rfl⟩
theorem set_ok {ts : List Th} {a : Nat} {t : Th} (ok : ∀ t ∈ ts, thOk t) (ht : thOk t) : ∀ x ∈ ts.set a t, thOk x := fun x hx => by
  rcases List.mem_or_eq_of_mem_set hx with h | h
  · exact ok x h
  · rw [h]; exact ht
theorem tab_big {start : Int} {ts : List Th} {tab : List Int} (h : Tab start (tsf ts) tab) (hs : 0 ≤ start ∧ start < 1048576) (ok : ∀ t ∈ ts, thOk t) (hl : ts.length ≤ 6) (ht : tab.length ≤ 2 ^ ts.length) : ∀ e ∈ tab, 0 ≤ e ∧ e < 10000000 := fun e he => by
  obtain ⟨i, hi⟩ := List.getElem?_of_mem he
  have hb := h.at_ i e hi
  have hlt : i < 2 ^ ts.length := Nat.lt_of_lt_of_le (List.getElem?_eq_some_iff.mp hi).1 ht
  have b := hb.bnd (tsf_ok ok fun k hk => bits_lt _ (by omega) i hlt k hk) hs.1
  have c := bits_count i
  rw [List.length_map] at b
  omega

section
variable {P : Program} {w : World} {K : PySem.W.Frag} {mg : Str → Option Value} {base : Heap}
theorem ok_law_source {f : Addr} {fd : FuncData} (F : Fun K "_law_source" "_law_source" st_law_source f fd) (T : Txt mg) : FnOk P w K mg base (L2.CX P w) 1 f fd ["script"] (spP K 1 s_law_source) := by
  refine fn_P F sc_law_source (by decide) fun cdv A outer s H E ds Ψ Ξ hr hl hS => ?_
  obtain ⟨ns, rfl, hn, hΨ⟩ := hS
  have nd := sc_law_source.nd
  show dsb _ _ [.val (.klst (ns.map .int)), .no, .no, .no] _
  refine dsb_cons ?_
  -- cells = [abs(int(cell)) for cell in script]
  refine ds_asgLcF (i := 1) (j := 2) (.s .z) (.s (.s .z)) .nil ?_ (by walk_at "zblk") rfl rfl nd rfl rfl (fun _ => rfl)
  refine di_seq ?_
  walk_at "zz"
  refine ⟨_, _, .klst, ?_⟩
  refine ⟨_, by walk_at "zwipe", fun i => (ns[i]?).map fun n => .int (if n < 0 then -n else n), ⟨by rw [List.length_map]; exact Nat.lt_of_le_of_lt hn (by decide), fun i d hi hd => ?_⟩, fun p => ?_⟩
  · obtain ⟨n, e1, rfl⟩ := ints_get hd
    refine lct0 (put_go (by walk_at "zset") fun s' H' C cl fp => ?_)
    walk_at "zz"
    exact ⟨by rw [e1]; rfl, rfl⟩
  rw [List.length_map, fm_map (as := ns) (g := fun n => D.int (if n < 0 then -n else n)) (fun i a h => by rw [h]; rfl), show (ns.map fun n => D.int (if n < 0 then -n else n)) = (ns.map fun n => if n < 0 then -n else n).map D.int from (List.map_map ..).symm]
  generalize hc : (ns.map fun n => if n < 0 then -n else n) = cells
  have pos : ∀ c ∈ cells, 0 ≤ c := by
    rw [← hc]
    intro c h
    obtain ⟨n, _, rfl⟩ := List.mem_map.mp h
    show 0 ≤ if n < 0 then -n else n
    split <;> omega
  have len : cells.length ≤ 63 := by rw [← hc, List.length_map]; exact hn
  refine put_go (by walk_at "zset") ?_
  -- if len(cells) == 0: cells = [5]
  refine nx_go (dsb_cons (ds_mid (fun δ => ∃ (p : Addr) (cells : List Int), δ = [.val (.klst (ns.map .int)), .own p (.lst (cells.map .int)), .no, .no] ∧ 0 < cells.length ∧ cells.length ≤ 63 ∧ ∀ c ∈ cells, 0 ≤ c) ?_ ?_))
  · walk_at "zz"
    refine if_dec (fun h => ?_) (fun h => ?_)
    · walk_at "zz"
      exact ⟨_, [5], rfl, by decide, by decide, by simp⟩
    · walk_at "zz"
      exact ⟨_, cells, rfl, by omega, len, pos⟩
  rintro δ ⟨p, cells, rfl, hpos, len, pos⟩
  obtain ⟨c0, m0, e0⟩ := atI_ints (ns := cells) (i := 0) (Int.le_refl 0) (by omega)
  have z0 := pos c0 m0
  refine nx_go (dsb_cons ?_)
  walk_at "z"
  refine dsb_cons (ds_mid (fun δ => ∃ (m : Int), δ = [.val (.klst (ns.map .int)), .own p (.lst (cells.map .int)), .no, .val (.int m)]) ?_ ?_)
  · walk_at "zz"
    refine if_dec (fun h => ?_) (fun h => ?_)
    · walk_at "zz"
      exact ⟨_, rfl⟩
    · walk_at "zz"
      exact ⟨_, rfl⟩
  rintro δ ⟨m, rfl⟩
  refine nx_go (dsb_frzS (i := 1) rfl .lst (by walk_at "zset") ?_)
  walk_at "zz"
  exact hΨ _ _ ⟨cells, 0, c0, 0, m, rfl, hpos, by omega, pos, by decide, z0, by decide⟩
end

section
variable {P : Program} {w : World} {K : PySem.W.Frag} {mg : Str → Option Value} {base : Heap}
theorem draw_end {p : Addr} {cells : List Int} {place digits count mixed m : Int} {δ : Zd.Env} {Ψ : DV → Cell → Prop} (hpos : 0 < cells.length) (hlen : cells.length ≤ 100) (pos : ∀ c ∈ cells, 0 ≤ c) (h1 : 0 ≤ place) (h2 : 0 ≤ digits) (h3 : 0 ≤ count)
    (h : Ψ (.val (.int m)) (.ab SrcP)) : ∃ c' c'', (DV.own p (.lst [.lst (cells.map .int), .int place, .int digits, .int count, .int mixed]) :: δ)[0]? = some (.own p c') ∧ Weak c' c'' ∧ Ψ (.val (.int m)) c'' :=
  ⟨_, _, rfl, .ab ⟨cells, place, digits, count, mixed, rfl, hpos, hlen, pos, h1, h2, h3⟩, h⟩
theorem ok_law_draw {f : Addr} {fd : FuncData} (F : Fun K "_law_draw" "_law_draw" st_law_draw f fd) (T : Txt mg) : FnOk P w K mg base (L2.CX P w) 1 f fd ["source", "limit"] (spM K 2 s_law_draw) := by
  refine fn_M F sc_law_draw (by decide) fun cdv A outer s H E p c ds Ψ Ξ hr hl hS => ?_
  obtain ⟨n, rfl, rfl, hn, hΨ⟩ := hS
  have nd := sc_law_draw.nd
  show dsb _ _ [.own p (.ab SrcP), .val (.int n), .no, .no, .no, .no, .no, .no] _
  refine dsb_open (i := 0) rfl fun xs ⟨cells, place, digits, count, mixed, e, hpos, hlen, pos, h1, h2, h3⟩ => ?_
  subst e
  show dsb _ _ [.own p (.lst [.lst (cells.map .int), .int place, .int digits, .int count, .int mixed]), .val (.int n), .no, .no, .no, .no, .no, .no] _
  have n0 : 0 < n := by omega
  have n0' : 0 < n ∧ n < 1073741824 := by omega
  have m0 : ∀ d, 0 ≤ d % n := fun d => Int.emod_nonneg _ (by omega)
  have m1 : ∀ d, d % n < n := fun d => Int.emod_lt_of_pos _ n0
  have d0 : 0 ≤ digits / n := Int.ediv_nonneg h2 (by omega)
  have l0 : (0 : Int) < cells.length := by omega
  have i0 : 0 ≤ count % (cells.length : Int) := Int.emod_nonneg _ (by omega)
  have i1 : count % (cells.length : Int) < cells.length := Int.emod_lt_of_pos _ l0
  iterate 5 (refine dsb_cons ?_; walk_at "z")
  refine dsb_cons (ds_mid (fun δ => δ = [.own p (.lst [.lst (cells.map .int), .int place, .int digits, .int (count + 1), .int mixed]), .val (.int n), .val (.lst (cells.map .int)), .val (.int place), .val (.int digits), .val (.int count), .no, .no]) ?_ ?_)
  · walk_at "zz"
    refine if_dec (fun h => ?_) (fun h => ?_)
    · walk_at "zz"
      refine if_dec (fun h => ?_) (fun h => ?_)
      · walk_at "zz"
        refine if_dec (fun h' => ?_) (fun h' => ?_)
        · walk_at "zz"
          refine if_dec (fun h'' => ?_) (fun h'' => ?_)
          · obtain ⟨c, hc, hat⟩ := atI_ints (ns := cells) (i := place + 1) (by omega) h''
            walk_at "zz"
            exact draw_end (digits := c) hpos hlen pos (by omega) (pos c hc) (by omega) (hΨ _ (m0 _) (m1 _))
          · walk_at "zz"
            exact draw_end (digits := digits / n) hpos hlen pos (by omega) d0 (by omega) (hΨ _ (m0 _) (m1 _))
        · walk_at "zz"
          exact draw_end (digits := digits / n) hpos hlen pos (by omega) d0 (by omega) (hΨ _ (m0 _) (m1 _))
      · walk_at "zz"
        rfl
    · refine iteF ?_
      walk_at "zz"
      rfl
  rintro δ rfl
  obtain ⟨c, hc, hat⟩ := atI_ints i0 i1
  walk_at "zz"
  exact draw_end hpos hlen pos h1 h2 (by omega) (hΨ _ (m0 _) (m1 _))
end

section
variable {P : Program} {w : World} {K : PySem.W.Frag} {mg : Str → Option Value} {base : Heap}
theorem ok_law_is_number {f : Addr} {fd : FuncData} (F : Fun K "_law_is_number" "_law_is_number" st_law_is_number f fd) (T : Txt mg) : FnOk P w K mg base (L2.CX P w) 1 f fd ["thing"] (spP K 1 s_law_is_number) := by
  refine fn_P F sc_law_is_number (by decide) fun cdv A outer s H E ds Ψ Ξ hr hl hS => ?_
  obtain ⟨d, a, rfl, ht, hΨ⟩ := hS
  have nd := sc_law_is_number.nd
  show dsb _ _ [.val d] _
  refine dsb_one ?_
  cases d with
  | int i => walk_at "zz"; exact hΨ
  | bl i => walk_at "zz"; exact hΨ
  | non => walk_at "zz"; exact hΨ
  | str i => walk_at "zz"; exact hΨ
  | lst i => walk_at "zz"; exact hΨ
  | klst i => cases ht
  | tup i => walk_at "zz"; exact hΨ
  | dic i j => walk_at "zz"; exact hΨ
  | raw i => cases ht
  | obj i j k => cases ht
theorem plain_atom {f : Addr} (T : Txt mg) {k : Nat} {cdv : Value} {A : Around} {outer : List PySem.Env} {s : Shared} {H : Hp} {E : XK} {d : D} {Ψ : DV → Prop} {Ξ : Exn → Prop} (hr : Room k (A.deeper (envOfC "_law_plain" (defScope st_law_plain) s.heap.objs.size f cdv))) (hd : isAtom d = true) (hΨ : Ψ (.val (plainD d))) :
    dsb ⟨fX P w K mg base N_law_plain "_law_plain" st_law_plain f cdv A outer s H E, fW E, fun x _ => Ξ x⟩ (defBody st_law_plain) [.val d, .no] (pE Ψ) := by
  obtain ⟨a, ht, hl, htu, hb, hp⟩ := atom_is hd
  rw [hp] at hΨ
  have nd := sc_law_plain.nd
  refine dsb_cons ?_
  walk_at "zz"
  exact hΨ
theorem ok_law_plain {f : Addr} {fd : FuncData} (F : Fun K "_law_plain" "_law_plain" st_law_plain f fd) (T : Txt mg) (hm : mg "_law_plain" = some (.ref f)) (hk : PySem.W.keepIn K (.ref f) = true) (hb : Binds K fd ["thing"] []) : ∀ n, FnOk P w K mg base (L2.CX P w) (n + 1) f fd ["thing"] (spP K 1 (s_law_plain n)) := by
  intro n
  induction n with
  | zero =>
    refine fn_P F sc_law_plain (by decide) fun cdv A outer s H E ds Ψ Ξ hr hl hS => ?_
    obtain ⟨d, rfl, hd, hΨ⟩ := hS
    exact plain_atom T hr hd hΨ
  | succ n ih =>
    have C_law_plain : CalP P w K mg base (n + 1) "_law_plain" 1 (s_law_plain n) := ⟨⟨f, _, ["thing"], ih, rfl, hm, hk, hb⟩⟩
    refine fn_P F sc_law_plain (by decide) fun cdv A outer s H E ds Ψ Ξ hr hl hS => ?_
    obtain ⟨d, rfl, hd, hΨ⟩ := hS
    rcases hd with hd | ⟨xs, hd, hsz, hin⟩
    · exact plain_atom T hr hd hΨ
    have nd := sc_law_plain.nd
    show dsb _ _ [.val d, .no] _
    refine dsb_cons ?_
    have fin : (List.range xs.length).filterMap (fun i => (xs[i]?).map plainD) = xs.map plainD := fm_map (as := xs) (g := plainD) (fun i a h => by rw [h]; rfl)
    rcases hd with rfl | rfl
    · walk_at "zz"
      refine de_lcF (j := 1) (.s .z) .nil ?_ (by walk_at "zblk") rfl rfl nd (fun _ => rfl)
      refine di_seq ?_
      walk_at "zz"
      refine ⟨_, _, .lst, ?_⟩
      refine ⟨_, by walk_at "zwipe", fun i => (xs[i]?).map plainD, ⟨hsz, fun i d hi hd => ?_⟩, fun p => ?_⟩
      · refine lct0 (put_go (by walk_at "zset") fun s' H' C cl fp => ?_)
        walk_at "zz"
        refine ⟨_, rfl, hin d (List.mem_of_getElem? hd), ?_⟩
        walk_at "zz"
        exact ⟨by rw [hd]; rfl, rfl⟩
      · rw [fin]
        walk_at "zz"
        rw [← plainDs_map]
        exact hΨ
    · walk_at "zz"
      refine de_lcF (j := 1) (.s .z) .nil ?_ (by walk_at "zblk") rfl rfl nd (fun _ => rfl)
      refine di_seq ?_
      walk_at "zz"
      refine ⟨_, _, .tup, ?_⟩
      refine ⟨_, by walk_at "zwipe", fun i => (xs[i]?).map plainD, ⟨hsz, fun i d hi hd => ?_⟩, fun p => ?_⟩
      · refine lct0 (put_go (by walk_at "zset") fun s' H' C cl fp => ?_)
        walk_at "zz"
        refine ⟨_, rfl, hin d (List.mem_of_getElem? hd), ?_⟩
        walk_at "zz"
        exact ⟨by rw [hd]; rfl, rfl⟩
      · rw [fin]
        walk_at "zz"
        rw [← plainDs_map]
        exact hΨ
end

section
variable {P : Program} {w : World} {K : PySem.W.Frag} {mg : Str → Option Value} {base : Heap}
theorem ok_start_behind {f : Addr} {fd : FuncData} (F : Fun K "start_behind" "start_behind" st_start_behind f fd) (T : Txt mg) : FnOk P w K mg base (L2.CX P w) 1 f fd ["end", "align"] (spP K 2 s_start_behind) := by
  refine fn_P F sc_start_behind (by decide) fun cdv A outer s H E ds Ψ Ξ hr hl hS => ?_
  obtain ⟨e, a, rfl, he, ha, hΨ⟩ := hS
  have nd := sc_start_behind.nd
  show dsb _ _ [.val (.int e), .val (.int a)] _
  refine dsb_one ?_
  walk_at "zz"
  exact hΨ
theorem ok_end_with {f : Addr} {fd : FuncData} (F : Fun K "end_with" "end_with" st_end_with f fd) (T : Txt mg) (C_start_behind : CalP P w K mg base 1 "start_behind" 2 s_start_behind) : FnOk P w K mg base (L2.CX P w) 2 f fd ["end", "thing"] (spP K 2 s_end_with) := by
  refine fn_P F sc_end_with (by decide) fun cdv A outer s H E ds Ψ Ξ hr hl hS => ?_
  obtain ⟨e, t, rfl, he, ha, hΨ⟩ := hS
  have nd := sc_end_with.nd
  show dsb _ _ [.val (.int e), .val (.tup [.int t.1, .int t.2])] _
  refine dsb_one ?_
  walk_at "zz"
  refine ⟨_, _, rfl, he, ha.2.2, ?_⟩
  walk_at "zz"
  exact hΨ
theorem ok_things_in {f : Addr} {fd : FuncData} (F : Fun K "things_in" "things_in" st_things_in f fd) (T : Txt mg) : FnOk P w K mg base (L2.CX P w) 1 f fd ["chosen"] (spP K 1 s_things_in) := by
  refine fn_P F sc_things_in (by decide) fun cdv A outer s H E ds Ψ Ξ hr hl hS => ?_
  obtain ⟨c, rfl, hc, hΨ⟩ := hS
  have nd := sc_things_in.nd
  show dsb _ _ [.val (.int c), .no] _
  refine dsb_one (ds_ret ?_)
  walk_at "zlc"
  have hb : PySem.Builtin.Int.intBits (c : Nat) < 7 := by
    have : ∀ c < 64, PySem.Builtin.Int.intBits (c : Nat) < 7 := by decide +kernel
    exact this c hc
  refine ⟨by omega, by omega, ?_⟩
  refine ⟨_, by walk_at "zwipe", fun i => if c / 2 ^ i % 2 == 1 then some (nD i) else none, ⟨by show PySem.Builtin.Int.intBits (c : Nat) < _; exact Nat.lt_trans hb (by decide), fun i d hi hd => ?_⟩, fun p => ?_⟩
  · cases hd
    refine lct1 (put_go (by walk_at "zset") fun s' H' C cl fp => ?_)
    have nn := bit_nn c i
    walk_at "zz"
    refine if_dec (fun h s' H' C cl fp => ?_) (fun h => ?_)
    · walk_at "zz"
      have e := (bit_is c i).mp h
      exact ⟨by simp [e], rfl⟩
    · have e : ¬ c / 2 ^ i % 2 = 1 := fun e => h ((bit_is c i).mpr e)
      exact ⟨by simp [e], rfl⟩
  · rw [fm_if, show ((PySem.Builtin.Int.intBits (c : Nat) : Nat) : Int).toNat = PySem.Builtin.Int.intBits (c : Nat) from rfl, bits_intBits c hc]
    exact hΨ p
end

section
variable {P : Program} {w : World} {K : PySem.W.Frag} {mg : Str → Option Value} {base : Heap}
theorem ok_least_behind {f : Addr} {fd : FuncData} (F : Fun K "least_behind" "least_behind" st_least_behind f fd) (T : Txt mg) (C_end_with : CalP P w K mg base 2 "end_with" 2 s_end_with) (C_things_in : CalP P w K mg base 1 "things_in" 1 s_things_in) : FnOk P w K mg base (L2.CX P w) 3 f fd ["ends", "things", "chosen"] (spP K 3 s_least_behind) := by
  refine fn_P F sc_least_behind (by decide) fun cdv A outer s H E ds Ψ Ξ hr hl hS => ?_
  obtain ⟨tab, ts, c, d, rfl, hd, ⟨hc, h0, hl, hk⟩, hb, ok, hΨ⟩ := hS
  have nd := sc_least_behind.nd
  show dsb _ _ [.val (.lst (tab.map .int)), .val d, .val (.int c), .no] _
  refine dsb_one (ds_ret ?_)
  walk_at "z"
  walk_at "zlc"
  refine ⟨_, rfl, hc, fun q => ?_⟩
  walk_at "z"
  refine ⟨_, _, .lst, ?_⟩
  refine ⟨_, by walk_at "zwipe", fun i => ((bits c)[i]?).map fun k => .int (ew (tab.getD (c - 2 ^ k) 0) (tsf ts k)), ⟨by rw [List.length_map]; exact Nat.lt_of_le_of_lt (bits_count c) (by decide), fun i d hi hd' => ?_⟩, fun p => ?_⟩
  · obtain ⟨k, hj, rfl⟩ := map_get hd'
    have hkb := List.mem_of_getElem? hj
    have hk6 : k < 6 := bits_lt 6 (by decide) c hc k hkb
    obtain ⟨a1, a2⟩ := at_tab hc hl hkb
    obtain ⟨b1, b2⟩ := at_th (hk k hkb)
    have bb := hb _ a2
    refine lct0 (put_go (by walk_at "zset") fun s' H' C cl fp => ?_)
    show de _ _ [.val (.lst (tab.map .int)), .val d, .val (.int c), .val (.int k)] _
    rcases hd with rfl | rfl
    · walk_at "zz"
      refine ⟨_, _, rfl, bb, ok _ b2, ?_⟩
      walk_at "zz"
      exact ⟨by rw [hj]; rfl, rfl⟩
    · walk_at "zz"
      refine ⟨_, _, rfl, bb, ok _ b2, ?_⟩
      walk_at "zz"
      exact ⟨by rw [hj]; rfl, rfl⟩
  · rw [List.length_map, fm_map (as := bits c) (g := fun k => D.int (ew (tab.getD (c - 2 ^ k) 0) (tsf ts k))) (fun i a h => by rw [h]; rfl), show ((bits c).map fun k => D.int (ew (tab.getD (c - 2 ^ k) 0) (tsf ts k))) = (lbs tab (tsf ts) c).map D.int from (List.map_map ..).symm]
    walk_at "zz"
    refine dr_minL rfl (by rw [List.length_map]; exact List.length_pos_iff.mpr (bits_ne c hc h0)) fun m h1 h2 => ?_
    walk_at "zz"
    exact hΨ m ⟨h1, h2⟩
end

section
variable {P : Program} {w : World} {K : PySem.W.Frag} {mg : Str → Option Value} {base : Heap}
theorem ok_law_things {f : Addr} {fd : FuncData} (F : Fun K "_law_things" "_law_things" st_law_things f fd) (T : Txt mg) (C_law_draw : CalM P w K mg base 1 "_law_draw" 2 s_law_draw) : FnOk P w K mg base (L2.CX P w) 2 f fd ["source", "count"] (spM K 2 s_law_things) := by
  refine fn_M F sc_law_things (by decide) fun cdv A outer s H E p c ds Ψ Ξ hr hl hS => ?_
  obtain ⟨n, rfl, rfl, hn, hΨ⟩ := hS
  have nd := sc_law_things.nd
  show dsb _ _ [.own p (.ab SrcP), .val (.int n), .no, .no, .no, .no] _
  refine dsb_cons ?_
  walk_at "z"
  refine draw_go ⟨by decide, by decide⟩ fun m m0 m1 => ?_
  obtain ⟨b, hb, hat⟩ : ∃ b : Int, (b = 10 ∨ b = 121) ∧ atI [D.int 10, .int 10, .int 121] m = some (.int b) := by
    have : m = 0 ∨ m = 1 ∨ m = 2 := by omega
    rcases this with rfl | rfl | rfl
    · exact ⟨10, .inl rfl, rfl⟩
    · exact ⟨10, .inl rfl, rfl⟩
    · exact ⟨121, .inr rfl, rfl⟩
  walk_at "z"
  refine dsb_cons ?_
  walk_at "z"
  refine dsb_cons (ds_mid (fun δ => ∃ (q : Addr) (ts : List Th) (d1 d2 : DV), δ = [.own p (.ab SrcP), .val (.int n), .val (.int b), .own q (.lst (ts.map thD)), d1, d2] ∧ (ts.length : Int) = n ∧ ∀ t ∈ ts, thOk t ∧ t.1 ≤ 120) ?_ ?_)
  · walk_at "zfor"
    refine ⟨by omega, by omega, [4], fun i δ => ∃ (q : Addr) (ts : List Th) (d1 d2 : DV), δ = [.own p (.ab SrcP), .val (.int n), .val (.int b), .own q (.lst (ts.map thD)), d1, d2] ∧ ts.length = i ∧ ∀ t ∈ ts, thOk t ∧ t.1 ≤ 120, ⟨_, [], _, _, rfl, rfl, by simp⟩, fun i d' δ2 hi hd' ⟨q, ts, d1, d2, e, hlen, ok⟩ => ?_, fun δ2 ⟨q, ts, d1, d2, e, hlen, ok⟩ => ⟨q, ts, d1, d2, e, by omega, ok⟩⟩
    subst e
    subst hd'
    have hsz : (ts.map thD).length < sizeLine := by rw [List.length_map]; exact Nat.lt_of_le_of_lt (show ts.length ≤ 6 by omega) (by decide)
    walk_at "zgt"
    refine dsb_cons ?_
    walk_at "z"
    refine draw_go ⟨by omega, by omega⟩ fun m2 m20 m21 => ?_
    walk_at "z"
    refine dsb_one ?_
    walk_at "z"
    refine draw_go ⟨by decide, by decide⟩ fun m3 m30 m31 => ?_
    obtain ⟨a, ha, hat⟩ : ∃ a : Int, (1 ≤ a ∧ a ≤ 16) ∧ atI [D.int 1, .int 2, .int 4, .int 8, .int 16] m3 = some (.int a) := by
      have : m3 = 0 ∨ m3 = 1 ∨ m3 = 2 ∨ m3 = 3 ∨ m3 = 4 := by omega
      rcases this with rfl | rfl | rfl | rfl | rfl
      · exact ⟨1, by decide, rfl⟩
      · exact ⟨2, by decide, rfl⟩
      · exact ⟨4, by decide, rfl⟩
      · exact ⟨8, by decide, rfl⟩
      · exact ⟨16, by decide, rfl⟩
    walk_at "z"
    refine ⟨q, ts ++ [(m2, a)], _, _, by rw [List.map_append]; rfl, by rw [List.length_append, hlen]; rfl, fun t ht => ?_⟩
    rcases List.mem_append.mp ht with ht | ht
    · exact ok t ht
    · rw [List.mem_singleton.mp ht]; exact ⟨⟨m20, by show m2 ≤ 121; omega, ha⟩, by show m2 ≤ 120; omega⟩
  rintro δ ⟨q, ts, d1, d2, rfl, hlen, ok⟩
  refine nx_go ?_
  refine dsb_cons (ds_mid (fun δ => ∃ (q : Addr) (ts : List Th) (d1 d2 : DV), δ = [.own p (.ab SrcP), .val (.int n), .val (.int b), .own q (.lst (ts.map thD)), d1, d2] ∧ (ts.length : Int) = n ∧ ∀ t ∈ ts, thOk t ∧ t.1 ≤ 120) ?_ ?_)
  · walk_at "zz"
    refine if_dec (fun h1 => ?_) (fun h1 => ?_)
    · walk_at "zz"
      refine draw_go ⟨by decide, by decide⟩ fun m2 m20 m21 => ?_
      walk_at "zz"
      refine if_dec (fun h2 => ?_) (fun h2 => ?_)
      · refine dsb_frzS (i := 3) rfl .lst (by walk_at "zset") ?_
        refine dsb_one ?_
        obtain ⟨b1, b2⟩ := at_th (ts := ts) (k := 0) (by omega)
        obtain ⟨e1, e2⟩ := at_th (ts := ts) (k := ts.length - 1) (by omega)
        rw [show ((ts.length - 1 : Nat) : Int) = n - 1 by omega] at e1
        generalize tsf ts 0 = t0 at *
        generalize tsf ts (ts.length - 1) = tl at *
        have b1' : atI (ts.map thD) 0 = some (thD t0) := b1
        walk_at "z"
        walk_at "zlc"
        refine ⟨by omega, by omega, _, by walk_at "zwipe", fun i => some (thD t0), ⟨Nat.lt_of_le_of_lt (show (n - 1).toNat ≤ 6 by omega) (by decide), fun i d hi hd => ?_⟩, fun q => ?_⟩
        · refine lct0 (put_go (by walk_at "zset") fun s' H' C cl fp => ?_)
          walk_at "zz"
          exact ⟨rfl, rfl⟩
        rw [fm_all (f := fun _ => thD t0) (fun i hi => rfl)]
        walk_at "z"
        refine dr_cat (by rw [List.length_map, List.length_range]; exact Nat.le_trans (show (n - 1).toNat + 1 ≤ 7 by omega) (by decide)) fun q => ?_
        walk_at "z"
        refine ⟨q, (List.range (n - 1).toNat).map (fun _ => t0) ++ [tl], _, _, by rw [List.map_append, List.map_map]; rfl, by rw [List.length_append, List.length_map, List.length_range, List.length_singleton]; omega, fun t ht => ?_⟩
        rcases List.mem_append.mp ht with ht | ht
        · obtain ⟨_, _, rfl⟩ := List.mem_map.mp ht
          exact ok _ b2
        · rw [List.mem_singleton.mp ht]; exact ok _ e2
      · walk_at "zz"
        exact ⟨q, ts, _, _, rfl, hlen, ok⟩
    · refine iteF ?_
      walk_at "zz"
      exact ⟨q, ts, _, _, rfl, hlen, ok⟩
  rintro δ ⟨q, ts, d1, d2, rfl, hlen, ok⟩
  refine nx_go (dsb_frzS (i := 3) rfl .lst (by walk_at "zset") ?_)
  walk_at "zz"
  exact ⟨_, _, rfl, .refl, hΨ _ hlen ok⟩
theorem ok_law_end {f : Addr} {fd : FuncData} (F : Fun K "_law_end" "_law_end" st_law_end f fd) (T : Txt mg) : FnOk P w K mg base (L2.CX P w) 1 f fd ["start", "things", "order"] (spP K 3 s_law_end) := by
  refine fn_P F sc_law_end (by decide) fun cdv A outer s H E ds Ψ Ξ hr hl hS => ?_
  obtain ⟨start, d, ts, o, rfl, hd, hl6, ho, hst, ok, hΨ⟩ := hS
  have nd := sc_law_end.nd
  show dsb _ _ [.val (.int start), .val d, .val (.tup (o.map nD)), .no, .no, .no] _
  refine dsb_cons ?_
  walk_at "z"
  refine dsb_cons (ds_mid (fun δ => ∃ d1 d2, δ = [.val (.int start), .val d, .val (.tup (o.map nD)), .val (.int (endT start (o.map (tsf ts)))), d1, d2]) ?_ ?_)
  · walk_at "zfor"
    refine ⟨_, _, .tup, [4], fun i δ => ∃ d1 d2, δ = [.val (.int start), .val d, .val (.tup (o.map nD)), .val (.int (endT start ((o.take i).map (tsf ts)))), d1, d2], ⟨_, _, rfl⟩, fun i d' δ2 hi hd' ⟨d1, d2, e⟩ => ?_, fun δ2 ⟨d1, d2, e⟩ => ⟨d1, d2, by rw [e, List.length_map, List.take_length]⟩⟩
    subst e
    obtain ⟨k, hj, rfl⟩ := map_get hd'
    have hk := ho k (List.mem_of_getElem? hj)
    obtain ⟨b1, b2⟩ := at_th hk
    have tk : o.take (i + 1) = o.take i ++ [k] := by rw [List.take_succ, hj]; rfl
    have es : endT start ((o.take (i + 1)).map (tsf ts)) = ew (endT start ((o.take i).map (tsf ts))) (tsf ts k) := by rw [tk, List.map_append]; exact endT_snoc _ _ _
    have okk := ok _ b2
    have okk' := okk.2.2
    have eb := endT_bnd (e := start) (o := (o.take i).map (tsf ts)) (tsf_ok ok fun k hk => ho k (List.mem_of_mem_take hk)) hst.1
    rw [List.length_map] at eb
    have tl : (o.take i).length ≤ 6 := by rw [List.length_take]; omega
    generalize endT start ((o.take i).map (tsf ts)) = e at *
    walk_at "zgt"
    rcases hd with rfl | rfl
    · walk_at "zz"
      exact ⟨_, _, by rw [es]; rfl⟩
    · walk_at "zz"
      exact ⟨_, _, by rw [es]; rfl⟩
  · rintro δ ⟨d1, d2, rfl⟩
    walk_at "zz"
    exact hΨ
end

section
variable {P : Program} {w : World} {K : PySem.W.Frag} {mg : Str → Option Value} {base : Heap}
theorem ok_law_orders {f : Addr} {fd : FuncData} (F : Fun K "_law_orders" "_law_orders" st_law_orders f fd) (T : Txt mg) : FnOk P w K mg base (L2.CX P w) 1 f fd ["numbers"] (spP K 1 s_law_orders) := by
  refine fn_P F sc_law_orders (by decide) fun cdv A outer s H E ds Ψ Ξ hr hl hS => ?_
  obtain ⟨S, rfl, hl6, hΨ⟩ := hS
  have nd := sc_law_orders.nd
  show dsb _ _ [.val (.lst (S.map nD)), .no, .no, .no, .no, .no] _
  refine dsb_cons ?_
  walk_at "z"
  refine dsb_cons (ds_mid (fun δ => ∃ (q : Addr) (d2 d3 d4 d5 : DV), δ = [.val (.lst (S.map nD)), .own q (.lst ((R S S.length []).map oD)), d2, d3, d4, d5]) ?_ ?_)
  · walk_at "zfor"
    refine ⟨by omega, by omega, [2], fun j δ => ∃ (q : Addr) (d2 d3 d4 d5 : DV), δ = [.val (.lst (S.map nD)), .own q (.lst ((R S j []).map oD)), d2, d3, d4, d5], ⟨_, _, _, _, _, rfl⟩, fun j d' δ2 hj hd' ⟨q, d2, d3, d4, d5, e⟩ => ?_, fun δ2 h => h⟩
    subst e
    subst hd'
    have hj' : j < S.length := by omega
    have fl := R_len hl6 j (by omega)
    have sh : ∀ o ∈ R S j [], o.length = j := fun o ho => by have := R_short ho; simpa using this
    have eR := ext_R S j []
    generalize R S j [] = F at *
    walk_at "zgt"
    refine dsb_frzS (i := 1) rfl .lst (by walk_at "zset") ?_
    refine dsb_cons ?_
    walk_at "z"
    refine dsb_cons (ds_mid (fun δ => ∃ (q : Addr) (d1 d2 d4 d5 : DV), δ = [.val (.lst (S.map nD)), d1, d2, .own q (.lst ((ext S F).map oD)), d4, d5]) ?_ ?_)
    · walk_at "zfor"
      refine ⟨_, _, .lst, [4], fun i δ => ∃ (q : Addr) (d4 d5 : DV), δ = [.val (.lst (S.map nD)), .val (.lst (F.map oD)), .val (.int (j : Int)), .own q (.lst ((ext S (F.take i)).map oD)), d4, d5], ⟨_, _, _, rfl⟩, fun i d' δ2 hi hd' ⟨q, d4, d5, e⟩ => ?_, fun δ2 ⟨q, d4, d5, e⟩ => ⟨q, .val (.lst (F.map oD)), .val (.int (j : Int)), d4, d5, by rw [e, List.length_map, List.take_length]⟩⟩
      subst e
      obtain ⟨o, ho, rfl⟩ := map_get hd'
      have tk : F.take (i + 1) = F.take i ++ [o] := by rw [List.take_succ, ho]; rfl
      have ol := sh o (List.mem_of_getElem? ho)
      have eX := ext_snoc S (F.take i) o
      rw [← tk] at eX
      have el := ext_len hl6 (F.take i)
      have tl : (F.take i).length ≤ 46656 := by rw [List.length_take]; omega
      generalize ext S (F.take i) = X at *
      walk_at "zgt"
      refine dsb_one ?_
      walk_at "zfor"
      refine ⟨_, _, .lst, [5], fun t δ => ∃ (q : Addr) (d5 : DV), δ = [.val (.lst (S.map nD)), .val (.lst (F.map oD)), .val (.int (j : Int)), .own q (.lst ((X ++ ((S.take t).filter fun n => !o.contains n).map fun n => o ++ [n]).map oD)), .val (.tup (o.map nD)), d5], ⟨_, _, by rw [List.take_zero, List.filter_nil, List.map_nil, List.append_nil]⟩, fun t d' δ2 ht hd' ⟨q, d5, e⟩ => ?_, fun δ2 ⟨q, d5, e⟩ => ⟨q, .val (.tup (o.map nD)), d5, by rw [e, List.length_map, List.take_length, eX]⟩⟩
      subst e
      obtain ⟨k, hk, rfl⟩ := map_get hd'
      have tk : S.take (t + 1) = S.take t ++ [k] := by rw [List.take_succ, hk]; rfl
      have eY := List.filter_append (p := fun n => !o.contains n) (S.take t) [k]
      rw [← tk] at eY
      have yl : ((S.take t).filter fun n => !o.contains n).length ≤ 6 := Nat.le_trans (List.length_filter_le ..) (by rw [List.length_take]; omega)
      generalize ((S.take t).filter fun n => !o.contains n) = Y at *
      have hsz : ((X ++ Y.map fun n => o ++ [n]).map oD).length < sizeLine := by
        rw [List.length_map, List.length_append, List.length_map]
        exact Nat.lt_of_le_of_lt (show X.length + Y.length ≤ 1000000 by omega) (by decide)
      walk_at "zgt"
      refine dsb_one ?_
      walk_at "z"
      refine dr_notin (u := .int (k : Int)) (us := o.map fun k : Nat => V.int (k : Int)) rfl (vOf_ints o) (.inr rfl) ?_
      rw [inV_ints]
      walk_at "z"
      have ey : (List.filter (fun n => !o.contains n) [k]) = if o.contains k = true then [] else [k] := by
        rw [List.filter_cons]
        cases o.contains k <;> rfl
      rw [ey] at eY
      refine if_nbool (fun h => ?_) (fun h => ?_)
      · refine dsb_one ?_
        walk_at "z"
        refine dr_catT (by rw [List.length_map, ol]; exact Nat.le_trans (show j + 1 ≤ 7 by omega) (by decide)) ?_
        walk_at "z"
        refine ⟨q, .val (.int (k : Int)), ?_⟩
        rw [eY, h, if_neg Bool.false_ne_true, List.map_append (f := fun n => o ++ [n]), ← List.append_assoc, List.map_append (f := oD) (l₁ := X ++ _)]
        show _ = [DV.val (.lst (S.map nD)), .val (.lst (F.map oD)), .val (.int (j : Int)), .own q (.lst ((X ++ Y.map fun n => o ++ [n]).map oD ++ [.tup ((o ++ [k]).map nD)])), .val (.tup (o.map nD)), .val (.int (k : Int))]
        rw [List.map_append (f := nD) (l₁ := o)]
        rfl
      · walk_at "zz"
        refine ⟨q, .val (.int (k : Int)), ?_⟩
        rw [eY, h, if_pos rfl, List.append_nil]
    · rintro δ ⟨q, d1, d2, d4, d5, rfl⟩
      walk_at "zz"
      show ∃ (q : Addr) (d2 d3 d4 d5 : DV), _ = [.val (.lst (S.map nD)), .own q (.lst ((R S (j + 1) []).map oD)), d2, d3, d4, d5]
      rw [← eR]
      exact ⟨_, _, _, _, _, rfl⟩
  · rintro δ ⟨q, d2, d3, d4, d5, rfl⟩
    walk_at "zz"
    exact hΨ q
end

section
variable {P : Program} {w : World} {K : PySem.W.Frag} {mg : Str → Option Value} {base : Heap}
theorem ok_judge_ends {f : Addr} {fd : FuncData} (F : Fun K "judge_ends" "judge_ends" st_judge_ends f fd) (T : Txt mg) (C_least_behind : CalP P w K mg base 3 "least_behind" 3 s_least_behind) : FnOk P w K mg base (L2.CX P w) 4 f fd ["start", "things", "ends"] (spP K 3 s_judge_ends2) := by
  refine fn_P F sc_judge_ends (by decide) fun cdv A outer s H E ds Ψ Ξ hr hl hS => ?_
  obtain ⟨start, ts, rows, right, rfl, hl6, hst, ok, hlen, htab, hbig, hΨ⟩ := hS
  have nd := sc_judge_ends.nd
  show dsb _ _ [.val (.int start), .val (.tup (ts.map thD)), .val (.lst (rows.map .int)), .no] _
  obtain ⟨p1, p2⟩ := pow6 hl6
  have shc : CPow 1 (ts.length : Int) := ⟨by omega, by omega, by decide⟩
  have t0 : right[0]? = some start := by
    obtain ⟨v, hv⟩ : ∃ v, right[0]? = some v := ⟨_, List.getElem?_eq_getElem (by omega)⟩
    rw [hv, (htab.at_ 0 v hv).uniq Bst.nil]
  refine dsb_cons (ds_mid (fun δ => δ = [.val (.int start), .val (.tup (ts.map thD)), .val (.lst (rows.map .int)), .no] ∧ rows.length = right.length ∧ rows[0]? = right[0]?) ?_ ?_)
  · walk_at "zz"
    rw [shl1]
    refine if_ndec (fun h => ?_) (fun h => ?_)
    · refine iteT ?_
      walk_at "zz"
      exact hΨ _ (.len (by omega))
    · have h0 : 0 < rows.length := by omega
      have at0 : atI (rows.map D.int) 0 = some (.int rows[0]) := atI_nat (j := 0) (by rw [List.getElem?_map, List.getElem?_eq_getElem h0]; rfl)
      walk_at "zz"
      refine if_ndec (fun h' => ?_) (fun h' => ?_)
      · walk_at "zz"
        exact hΨ _ (.at_ 0 (by omega) (by omega) (by rw [t0, List.getElem?_eq_getElem h0]; exact fun e => h' (Option.some.inj e)) fun j hj => absurd hj (by omega))
      · walk_at "zz"
        exact ⟨rfl, by omega, by rw [t0, List.getElem?_eq_getElem h0, h']⟩
  rintro δ ⟨rfl, hle, h0⟩
  refine nx_go (dsb_cons (ds_mid (fun δ => rows = right ∧ ∃ dv, δ = [.val (.int start), .val (.tup (ts.map thD)), .val (.lst (rows.map .int)), dv]) ?_ ?_))
  · walk_at "zfor"
    refine ⟨_, _, rfl, by omega, [3], fun i δ => (∀ j, j < i + 1 → rows[j]? = right[j]?) ∧ ∃ dv, δ = [.val (.int start), .val (.tup (ts.map thD)), .val (.lst (rows.map .int)), dv], ⟨fun j hj => by rw [show j = 0 by omega]; exact h0, _, rfl⟩, fun i d' δ2 hi hd' ⟨hb, dv, e⟩ => ?_, fun δ2 ⟨hb, dv, e⟩ => ⟨by cases parts_end hle (fun j hj => hb j (by omega)); assumption, dv, e⟩⟩
    subst e
    subst hd'
    have hi' : i + 1 < 2 ^ ts.length := by omega
    have i6 : i + 1 < 64 := by omega
    have lb : ∀ k ∈ bits (i + 1), k < ts.length := bits_lt _ (by omega) _ hi'
    have hil : i + 1 < rows.length := by omega
    have hir : i + 1 < right.length := by omega
    have hat : atI (rows.map D.int) ((i + 1 : Nat) : Int) = some (.int rows[i + 1]) := atI_map hil
    have tkt : Tab start (tsf ts) (rows.take (i + 1)) := ⟨fun c v hc => by
      have hc' : c < i + 1 := by
        have := (List.getElem?_eq_some_iff.mp hc).1
        rw [List.length_take] at this; omega
      rw [List.getElem?_take, if_pos hc', hb c hc'] at hc
      exact htab.at_ c v hc⟩
    have lbe : lbs rows (tsf ts) (i + 1) = lbs (rows.take (i + 1)) (tsf ts) (i + 1) := by
      apply List.map_congr_left
      intro k hk
      have h2 : 0 < 2 ^ k := Nat.pow_pos (by decide)
      rw [List.getD_eq_getElem?_getD, List.getD_eq_getElem?_getD, List.getElem?_take, if_pos (by omega)]
    rw [show (1 : Int) + (i : Int) = ((i + 1 : Nat) : Int) by omega]
    walk_at "zgt"
    walk_at "zz"
    refine ⟨rows, ts, i + 1, _, rfl, .inl rfl, ⟨i6, by omega, by omega, lb⟩, hbig, ok, fun m hm => ?_⟩
    rw [lbe] at hm
    have hb2 := tkt.least i6 (by rw [List.length_take]; omega) (fun k hk => ok _ (at_th (lb k hk)).2) hm
    have e : right[i + 1] = m := (htab.at_ (i + 1) _ (List.getElem?_eq_getElem hir)).uniq hb2
    walk_at "zz"
    refine if_ndec (fun h => ?_) (fun h => ?_)
    · walk_at "zz"
      exact hΨ _ (.at_ (i + 1) hle hir (by rw [List.getElem?_eq_getElem hil, List.getElem?_eq_getElem hir, e]; exact fun e' => h (Option.some.inj e')) hb)
    · walk_at "zz"
      refine ⟨fun j hj => ?_, _, rfl⟩
      by_cases hj' : j < i + 1
      · exact hb j hj'
      · rw [show j = i + 1 by omega, List.getElem?_eq_getElem hil, List.getElem?_eq_getElem hir, e, h]
  · rintro δ ⟨e, dv, rfl⟩
    walk_at "zz"
    exact hΨ _ (.same e)
end

section
variable {P : Program} {w : World} {K : PySem.W.Frag} {mg : Str → Option Value} {base : Heap}
theorem ok_law_due {f : Addr} {fd : FuncData} (F : Fun K "_law_due" "_law_due" st_law_due f fd) (T : Txt mg) : FnOk P w K mg base (L2.CX P w) 1 f fd ["rows", "right"] (spP K 2 s_law_due2) := by
  refine fn_P F sc_law_due (by decide) fun cdv A outer s H E ds Ψ Ξ hr hl hS => ?_
  obtain ⟨rows, right, rfl, hl1, hl2, hΨ⟩ := hS
  have nd := sc_law_due.nd
  show dsb _ _ [.val (.lst (rows.map .int)), .val (.lst (right.map .int)), .no] _
  refine dsb_cons (ds_mid (fun δ => δ = [.val (.lst (rows.map .int)), .val (.lst (right.map .int)), .no] ∧ rows.length = right.length) ?_ ?_)
  · walk_at "zz"
    refine if_ndec (fun h => ?_) (fun h => ?_)
    · walk_at "zz"
      exact hΨ _ (.len (by omega))
    · walk_at "zz"
      exact ⟨rfl, by omega⟩
  rintro δ ⟨rfl, hle⟩
  refine nx_go (dsb_cons (ds_mid (fun δ => rows = right ∧ ∃ dv, δ = [.val (.lst (rows.map .int)), .val (.lst (right.map .int)), dv]) ?_ ?_))
  · walk_at "zfor"
    refine ⟨by omega, by omega, [2], fun i δ => (∀ j, j < i → rows[j]? = right[j]?) ∧ ∃ dv, δ = [.val (.lst (rows.map .int)), .val (.lst (right.map .int)), dv], ⟨fun j hj => absurd hj (by omega), _, rfl⟩, fun i d' δ2 hi hd' ⟨hb, dv, e⟩ => ?_, fun δ2 ⟨hb, dv, e⟩ => ⟨by cases parts_end hle (fun j hj => hb j (by omega)); assumption, dv, e⟩⟩
    subst e
    subst hd'
    have hil : i < rows.length := by omega
    have hir : i < right.length := by omega
    have hat : atI (rows.map D.int) (i : Int) = some (.int rows[i]) := atI_map hil
    have hat2 : atI (right.map D.int) (i : Int) = some (.int right[i]) := atI_map hir
    walk_at "zgt"
    walk_at "zz"
    refine if_ndec (fun h => ?_) (fun h => ?_)
    · walk_at "zz"
      exact hΨ _ (.at_ i hle hir (by rw [List.getElem?_eq_getElem hil, List.getElem?_eq_getElem hir]; exact fun e' => h (Option.some.inj e')) hb)
    · walk_at "zz"
      refine ⟨fun j hj => ?_, _, rfl⟩
      by_cases hj' : j < i
      · exact hb j hj'
      · rw [show j = i by omega, List.getElem?_eq_getElem hil, List.getElem?_eq_getElem hir, h]
  · rintro δ ⟨e, dv, rfl⟩
    walk_at "zz"
    exact hΨ _ (.same e)
theorem ok_law_right {f : Addr} {fd : FuncData} (F : Fun K "_law_right" "_law_right" st_law_right f fd) (T : Txt mg) (C_law_is_number : CalP P w K mg base 1 "_law_is_number" 1 s_law_is_number) : FnOk P w K mg base (L2.CX P w) 2 f fd ["told", "due"] (spP K 2 s_law_right2) := by
  refine fn_P F sc_law_right (by decide) fun cdv A outer s H E ds Ψ Ξ hr hl hS => ?_
  obtain ⟨d, rfl, hd, hΨ⟩ := hS
  have nd := sc_law_right.nd
  show dsb _ _ [.val d, .val d] _
  refine dsb_cons ?_
  rcases hd with rfl | ⟨i, rfl⟩
  · walk_at "zz"
    exact hΨ
  · walk_at "zz"
    refine ⟨_, _, rfl, rfl, ?_⟩
    walk_at "zz"
    refine iteT ?_
    walk_at "zz"
    rw [show decide (i = i) = true from decide_eq_true rfl]
    exact hΨ
end

section
variable {P : Program} {w : World} {K : PySem.W.Frag} {mg : Str → Option Value} {base : Heap}
theorem bits_range_len {n c : Nat} (hn : n ≤ 6) (hc : c < 2 ^ n) : ((List.range n).filter fun k => c / 2 ^ k % 2 == 1) = bits c := bits_len n (by omega) c hc
theorem ok_law_worked_out {f : Addr} {fd : FuncData} (F : Fun K "_law_worked_out" "_law_worked_out" st_law_worked_out f fd) (T : Txt mg) : FnOk P w K mg base (L2.CX P w) 1 f fd ["rows", "things", "at"] (spP K 3 s_law_worked_out) := by
  refine fn_P F sc_law_worked_out (by decide) fun cdv A outer s H E ds Ψ Ξ hr hl hS => ?_
  obtain ⟨rows, d, ts, a0, rfl, hd, hl6, ok, hlen, ha, hbig, hΨ⟩ := hS
  have nd := sc_law_worked_out.nd
  show dsb _ _ [.val (.lst (rows.map .int)), .val d, .val (.int (a0 : Int)), .no, .no, .no, .no, .no] _
  obtain ⟨p1, p2⟩ := pow6 hl6
  refine dsb_cons ?_
  walk_at "z"
  refine dsb_cons (ds_mid (fun δ => ∃ (q : Addr) (r : List Int) (d3 d4 d5 d6 d7 : DV), δ = [.own q (.lst (r.map .int)), .val d, .val (.int (a0 : Int)), d3, d4, d5, d6, d7] ∧ r.length = rows.length ∧ (∀ e ∈ r, 0 ≤ e ∧ e < 1073100000) ∧ (∀ start, a0 = 0 → rows[0]? = some start → Tab start (tsf ts) r)) ?_ ?_)
  · walk_at "zfor"
    refine ⟨_, _, rfl, by omega, [3], fun i δ => ∃ (q : Addr) (r : List Int) (d3 d4 d5 d6 d7 : DV), δ = [.own q (.lst (r.map .int)), .val d, .val (.int (a0 : Int)), d3, d4, d5, d6, d7] ∧ r.length = rows.length ∧ (∀ (j : Nat) e, r[j]? = some e → 0 ≤ e ∧ e < 1073000000 + 136 * (j : Int) + 136) ∧ (∀ start, a0 = 0 → rows[0]? = some start → Tab start (tsf ts) (r.take (i + 1))),
      ⟨_, rows, _, _, _, _, _, rfl, rfl, fun j e he => ?_, fun start h0 hs => ?_⟩, fun i d' δ2 hi hd' ⟨qr, r, d3, d4, d5, d6, d7, e, rl, rb, rt⟩ => ?_, fun δ2 ⟨q, r, d3, d4, d5, d6, d7, e, rl, rb, rt⟩ => ⟨q, r, d3, d4, d5, d6, d7, e, rl, fun e he => ?_, fun start h0 hs => ?_⟩⟩
    · have := hbig e (List.mem_of_getElem? he)
      omega
    · have : rows.take (0 + 1) = [start] := by
        cases rows with
        | nil => cases hs
        | cons x xs => cases hs; rfl
      rw [this]
      exact .one ..
    · subst e
      subst hd'
      generalize hcc : a0 + 1 + i = c at *
      have hc : c < rows.length := by
        omega
      have hc' : c < 2 ^ ts.length := by omega
      have c6 : c < 64 := by omega
      have lb : ∀ k ∈ bits c, k < ts.length := bits_lt _ (by omega) _ hc'
      have bc := bits_count c
      rw [show (a0 : Int) + 1 + (i : Int) = (c : Int) by omega]
      walk_at "zgt"
      refine dsb_cons ?_
      walk_at "z"
      refine dsb_cons (ds_mid (fun δ => ∃ (q2 : Addr) (d5 d6 d7 : DV), δ = [.own qr (.lst (r.map .int)), .val d, .val (.int (a0 : Int)), .val (.int (c : Int)), .own q2 (.lst ((lbs r (tsf ts) c).map .int)), d5, d6, d7]) ?_ ?_)
      · walk_at "zfor"
        refine dr_lenTh hd ?_
        walk_at "z"
        refine ⟨by omega, by omega, [5], fun t δ => ∃ (q2 : Addr) (d5 d6 d7 : DV), δ = [.own qr (.lst (r.map .int)), .val d, .val (.int (a0 : Int)), .val (.int (c : Int)), .own q2 (.lst ((((List.range t).filter fun k => c / 2 ^ k % 2 == 1).map fun k => ew (r.getD (c - 2 ^ k) 0) (tsf ts k)).map .int)), d5, d6, d7],
          ⟨_, _, _, _, rfl⟩, fun t d' δ2 ht hd' ⟨q2, d5, d6, d7, e⟩ => ?_, fun δ2 ⟨q2, d5, d6, d7, e⟩ => ⟨q2, d5, d6, d7, by rw [e, Int.toNat_natCast, bits_range_len hl6 hc']⟩⟩
        subst e
        subst hd'
        have nn := bit_nn c t
        have htl : t < ts.length := by omega
        have eY : (List.range (t + 1)).filter (fun k => c / 2 ^ k % 2 == 1) = (List.range t).filter (fun k => c / 2 ^ k % 2 == 1) ++ if c / 2 ^ t % 2 == 1 then [t] else [] := by
          rw [List.range_succ, List.filter_append, List.filter_cons]
          cases (c / 2 ^ t % 2 == 1) <;> rfl
        have yl : ((List.range t).filter fun k => c / 2 ^ k % 2 == 1).length ≤ t := Nat.le_trans (List.length_filter_le ..) (by rw [List.length_range]; exact Nat.le_refl _)
        generalize ((List.range t).filter fun k => c / 2 ^ k % 2 == 1) = Y at *
        have hsz : ((Y.map fun k => ew (r.getD (c - 2 ^ k) 0) (tsf ts k)).map D.int).length < sizeLine := by
          rw [List.length_map, List.length_map]; exact Nat.lt_of_le_of_lt (show Y.length ≤ 6 by omega) (by decide)
        walk_at "zgt"
        walk_at "zz"
        refine if_dec (fun h => ?_) (fun h => ?_)
        · have hb := (bit_is c t).mp h
          have hkb := mem_bits (by omega) hb
          obtain ⟨a1, a2⟩ := at_tab (tab := r) c6 (by omega) hkb
          obtain ⟨b1, b2⟩ := at_th htl
          have okk := (ok _ b2).2.2
          have eY2 := eY.trans (show _ = Y ++ [t] by rw [hb]; rfl)
          rcases hd with rfl | rfl
          · walk_at "zz"
            exact ⟨_, _, _, _, by rw [eY2, List.map_append, List.map_append]; rfl⟩
          · walk_at "zz"
            exact ⟨_, _, _, _, by rw [eY2, List.map_append, List.map_append]; rfl⟩
        · have hb : ¬ (c / 2 ^ t % 2 == 1) = true := fun e => h ((bit_is c t).mpr (by simpa using e))
          walk_at "zz"
          exact ⟨_, _, _, _, by rw [eY, if_neg hb, List.append_nil]⟩
      rintro δ ⟨q2, e5, e6, e7, rfl⟩
      have hix : ixN (r.map D.int).length (c : Int) = some c := by
        unfold ixN
        rw [if_pos (by omega), List.length_map, if_pos (by omega)]; rfl
      refine nx_go (dsb_one ?_)
      walk_at "z"
      walk_at "zlc"
      refine ⟨_, _, .lst, ?_⟩
      refine ⟨_, by walk_at "zwipe", fun i => ((lbs r (tsf ts) c)[i]?).map D.int, ⟨by rw [List.length_map, List.length_map]; exact Nat.lt_of_le_of_lt bc (by decide), fun i d hi hd' => ?_⟩, fun p => ?_⟩
      · obtain ⟨x, hj, rfl⟩ := map_get hd'
        refine lct0 (put_go (by walk_at "zset") fun s' H' C cl fp => ?_)
        walk_at "zz"
        exact ⟨by rw [hj]; rfl, rfl⟩
      rw [List.length_map, fm_map (as := lbs r (tsf ts) c) (g := D.int) (fun i a h => by rw [h]; rfl)]
      walk_at "z"
      refine dr_minL rfl (by rw [List.length_map]; exact List.length_pos_iff.mpr (bits_ne c c6 (by omega))) fun m h1 h2 => ?_
      walk_at "z"
      obtain ⟨k, hk, rfl⟩ := List.mem_map.mp h1
      obtain ⟨s1, s2⟩ := bits_sub c c6 k hk
      have hp : 0 < 2 ^ k := Nat.pow_pos (by decide)
      have hlt : c - 2 ^ k < r.length := by omega
      have g : r[c - 2 ^ k]? = some (r.getD (c - 2 ^ k) 0) := by
        rw [List.getD_eq_getElem?_getD, List.getElem?_eq_getElem hlt]; rfl
      have gb := rb _ _ g
      have eb := ew_bnd (ok _ (at_th (lb k hk)).2) gb.1
      refine ⟨qr, r.set c (ew (r.getD (c - 2 ^ k) 0) (tsf ts k)), _, _, _, _, _, by rw [List.map_set], by rw [List.length_set]; exact rl, fun j e he => ?_, fun start h0 hs => ?_⟩
      · by_cases hj : j = c
        · subst hj
          rw [List.getElem?_set_self (by omega)] at he
          cases he
          omega
        · rw [List.getElem?_set_ne (Ne.symm hj)] at he
          exact rb j e he
      · have ht := rt start h0 hs
        rw [show i + 1 = c by omega] at ht ⊢
        rw [take_set (by omega)]
        refine ht.snoc ?_
        have tl : (r.take c).length = c := by rw [List.length_take]; omega
        rw [tl]
        refine ht.least c6 (by omega) (fun k hk => ok _ (at_th (lb k hk)).2) ?_
        rw [← lbs_take c6]
        exact ⟨h1, h2⟩
    · obtain ⟨j, hj⟩ := List.getElem?_of_mem he
      have hl := (List.getElem?_eq_some_iff.mp hj).1
      have := rb j e hj
      omega
    · have := rt start h0 hs
      rw [List.take_of_length_le (by omega)] at this
      exact this
  rintro δ ⟨q, r, d3, d4, d5, d6, d7, rfl, rl, rb, rt⟩
  walk_at "zz"
  exact hΨ q r rl rb rt
end

section
variable {P : Program} {w : World} {K : PySem.W.Frag} {mg : Str → Option Value} {base : Heap}
theorem ok_law_table {f : Addr} {fd : FuncData} (F : Fun K "_law_table" "_law_table" st_law_table f fd) (T : Txt mg) (C_law_worked_out : CalP P w K mg base 1 "_law_worked_out" 3 s_law_worked_out) (C_law_orders : CalP P w K mg base 1 "_law_orders" 1 s_law_orders) (C_law_end : CalP P w K mg base 1 "_law_end" 3 s_law_end) : FnOk P w K mg base (L2.CX P w) 2 f fd ["start", "things"] (spP K 2 s_law_table) := by
  refine fn_P F sc_law_table (by decide) fun cdv A outer s H E ds Ψ Ξ hr hl hS => ?_
  obtain ⟨start, d, ts, rfl, hd, hl6, hst, ok, hΨ⟩ := hS
  have nd := sc_law_table.nd
  show dsb _ _ [.val (.int start), .val d, .no, .no, .no, .no, .no] _
  obtain ⟨p1, p2⟩ := pow6 hl6
  have shc : CPow 1 (ts.length : Int) := ⟨by omega, by omega, by decide⟩
  refine dsb_cons (ds_mid (fun δ => ∃ u : Unit, δ = [.val (.int start), .val d, .no, .no, .no, .no, .no]) ?_ ?_)
  · walk_at "z"
    refine dr_lenTh hd ?_
    walk_at "zz"
    refine if_dec (fun h => ?_) (fun h => ?_)
    · refine dsb_one (ds_ret ?_)
      walk_at "z"
      walk_at "zlc"
      refine dr_lenTh hd ?_
      walk_at "z"
      rw [shl1]
      refine ⟨by omega, by omega, ?_⟩
      refine ⟨_, by walk_at "zwipe", fun _ => some (.int start), ⟨by rw [Int.toNat_natCast]; exact Nat.lt_of_le_of_lt p1 (by decide), fun i d hi hd => ?_⟩, fun p => ?_⟩
      · refine lct0 (put_go (by walk_at "zset") fun s' H' C cl fp => ?_)
        walk_at "zz"
        exact ⟨rfl, rfl⟩
      rw [fm_all (f := fun _ => D.int start) (fun i hi => rfl), Int.toNat_natCast, show ((List.range (2 ^ ts.length)).map fun _ => D.int start) = ((List.range (2 ^ ts.length)).map fun _ => start).map D.int by rw [List.map_map]; rfl]
      walk_at "z"
      have rl : ((List.range (2 ^ ts.length)).map fun _ => start).length = 2 ^ ts.length := by rw [List.length_map, List.length_range]
      refine ⟨_, d, ts, 0, rfl, hd, hl6, ok, rl, by omega, fun e he => ?_, fun q r hl' hb ht => ?_⟩
      · obtain ⟨_, _, rfl⟩ := List.mem_map.mp he
        omega
      walk_at "z"
      exact hΨ q r (by omega) (ht start rfl (by rw [List.getElem?_map, List.getElem?_range p2]; rfl))
    · walk_at "zz"
      exact ⟨(), rfl⟩
  rintro δ ⟨_, rfl⟩
  refine nx_go (dsb_cons ?_)
  walk_at "z"
  refine dsb_cons (ds_mid (fun δ => ∃ (q : Addr) (tab : List Int) (d2 d4 d5 d6 : DV), δ = [.val (.int start), .val d, d2, .own q (.lst (tab.map .int)), d4, d5, d6] ∧ tab.length = 2 ^ ts.length ∧ Tab start (tsf ts) tab) ?_ ?_)
  · walk_at "zfor"
    refine dr_lenTh hd ?_
    walk_at "z"
    rw [shl1]
    refine ⟨by omega, by omega, [2], fun c δ => ∃ (q : Addr) (tab : List Int) (d2 d4 d5 d6 : DV), δ = [.val (.int start), .val d, d2, .own q (.lst (tab.map .int)), d4, d5, d6] ∧ tab.length = c ∧ Tab start (tsf ts) tab, ⟨_, [], _, _, _, _, rfl, rfl, ⟨fun c v h => by simp at h⟩⟩, fun c d' δ2 hc hd' ⟨qt, tab, d2, d4, d5, d6, e, tl, htab⟩ => ?_, fun δ2 ⟨q, tab, d2, d4, d5, d6, e, tl, htab⟩ => ⟨q, tab, d2, d4, d5, d6, e, by omega, htab⟩⟩
    subst e
    subst hd'
    have hc' : c < 2 ^ ts.length := by omega
    have c64 : c < 64 := by omega
    have bl := bits_lt _ (show ts.length < 7 by omega) c hc'
    have bc := bits_count c
    have bn := bits_nd c
    have beq := bits_len _ (show ts.length < 7 by omega) c hc'
    have hsz : (tab.map D.int).length < sizeLine := by rw [List.length_map, tl]; exact Nat.lt_of_lt_of_le c64 (by decide)
    walk_at "zgt"
    refine dsb_cons ?_
    walk_at "zlc"
    refine dr_lenTh hd ?_
    walk_at "z"
    refine ⟨by omega, by omega, ?_⟩
    refine ⟨_, by walk_at "zwipe", fun i => if c / 2 ^ i % 2 == 1 then some (nD i) else none, ⟨by rw [Int.toNat_natCast]; exact Nat.lt_of_le_of_lt hl6 (by decide), fun i d hi hd => ?_⟩, fun p => ?_⟩
    · cases hd
      refine lct1 (put_go (by walk_at "zset") fun s' H' C cl fp => ?_)
      have nn := bit_nn c i
      walk_at "zz"
      refine if_dec (fun h s' H' C cl fp => ?_) (fun h => ?_)
      · walk_at "zz"
        have e := (bit_is c i).mp h
        exact ⟨by simp [e], rfl⟩
      · have e : ¬ c / 2 ^ i % 2 = 1 := fun e => h ((bit_is c i).mpr e)
        exact ⟨by simp [e], rfl⟩
    rw [fm_if, Int.toNat_natCast, beq]
    walk_at "z"
    refine dsb_frzS (i := 4) rfl .lst (by walk_at "zset") ?_
    refine dsb_one ?_
    walk_at "z"
    walk_at "zlc"
    refine ⟨bits c, rfl, bc, fun q => ?_⟩
    walk_at "z"
    have ins : ∀ o ∈ R (bits c) (bits c).length [], (∀ k ∈ o, k < ts.length) ∧ o.length ≤ 6 ∧ o.Perm (bits c) := fun o ho => by
      have p := R_mlen bn ho
      exact ⟨fun k hk => bl k (p.mem_iff.mp hk), by rw [p.length_eq]; exact bc, p⟩
    have rne := R_ne bn
    have rln := R_len bc _ bc
    have rmem := fun o => R_mem bn (bits c).length [] o (by rw [lft_nil])
    generalize hO : R (bits c) (bits c).length [] = O at *
    refine ⟨_, _, .lst, ?_⟩
    refine ⟨_, by walk_at "zwipe", fun i => (O[i]?).map fun o => .int (endT start (o.map (tsf ts))), ⟨by rw [List.length_map]; exact Nat.lt_of_le_of_lt rln (by decide), fun i d' hi hd' => ?_⟩, fun p => ?_⟩
    · obtain ⟨o, ho, rfl⟩ := map_get hd'
      have hmem := List.mem_of_getElem? ho
      refine lct0 (put_go (by walk_at "zset") fun s' H' C cl fp => ?_)
      walk_at "zz"
      refine ⟨start, d, ts, o, rfl, hd, (ins o hmem).2.1, (ins o hmem).1, hst, ok, ?_⟩
      walk_at "zz"
      exact ⟨by rw [ho]; rfl, rfl⟩
    rw [List.length_map, fm_map (as := O) (g := fun o => D.int (endT start (o.map (tsf ts)))) (fun i a h => by rw [h]; rfl), show (O.map fun o => D.int (endT start (o.map (tsf ts)))) = (O.map fun o => endT start (o.map (tsf ts))).map D.int by rw [List.map_map]; rfl]
    walk_at "z"
    refine dr_minL rfl (by rw [List.length_map]; exact List.length_pos_iff.mpr rne) fun m h1 h2 => ?_
    walk_at "z"
    refine ⟨qt, tab ++ [m], _, _, _, _, by rw [List.map_append]; rfl, by rw [List.length_append, tl]; rfl, htab.snoc ?_⟩
    rw [tl]
    refine ⟨?_, fun o p => ?_⟩
    · obtain ⟨o, ho, rfl⟩ := List.mem_map.mp h1
      exact ⟨o.map (tsf ts), (ins o ho).2.2.map _, rfl⟩
    · obtain ⟨y, p', rfl⟩ := perm_map p _ rfl
      refine h2 _ (List.mem_map.mpr ⟨y, (rmem y).mpr ⟨y, rfl, by rw [lft_nil]; exact p'⟩, rfl⟩)
  rintro δ ⟨q, tab, d2, d4, d5, d6, rfl, tl, htab⟩
  walk_at "zz"
  exact hΨ q tab tl htab
end

section
variable {P : Program} {w : World} {K : PySem.W.Frag} {mg : Str → Option Value} {base : Heap}
theorem ok_law_other_things {f : Addr} {fd : FuncData} (F : Fun K "_law_other_things" "_law_other_things" st_law_other_things f fd) (T : Txt mg) (C_law_draw : CalM P w K mg base 1 "_law_draw" 2 s_law_draw) (C_law_table : CalP P w K mg base 2 "_law_table" 2 s_law_table) : FnOk P w K mg base (L2.CX P w) 3 f fd ["source", "start", "things"] (spM K 3 s_law_other_things) := by
  refine fn_M F sc_law_other_things (by decide) fun cdv A outer s H E p c ds Ψ Ξ hr hl hS => ?_
  obtain ⟨start, ts, rfl, rfl, hl6, hst, ok2, hΨ⟩ := hS
  have nd := sc_law_other_things.nd
  show dsb _ _ [.own p (.ab SrcP), .val (.int start), .val (.tup (ts.map thD)), .no, .no, .no, .no] _
  obtain ⟨p1, p2⟩ := pow6 hl6
  have ok : ∀ t ∈ ts, thOk t := fun t ht => (ok2 t ht).1
  refine dsb_cons ?_
  walk_at "z"
  refine draw_go ⟨by omega, by omega⟩ fun m m0 m1 => ?_
  obtain ⟨a, rfl⟩ : ∃ a : Nat, m = (a : Int) := ⟨m.toNat, (Int.toNat_of_nonneg m0).symm⟩
  walk_at "z"
  refine dsb_cons (ds_mid (fun δ => δ = [.own p (.ab SrcP), .val (.int start), .val (.tup (ts.map thD)), .val (nD a), .no, .no, .no] ∧ a < ts.length) ?_ ?_)
  · walk_at "zz"
    refine if_dec (fun h => ?_) (fun h => ?_)
    · walk_at "zz"
      refine draw_go ⟨by decide, by decide⟩ fun m2 m20 m21 => ?_
      walk_at "zz"
      refine ⟨_, _, ts, rfl, .inl rfl, hl6, ⟨by omega, by omega⟩, ok, fun q tab hlen htab => ?_⟩
      walk_at "zz"
      exact ⟨_, _, rfl, .refl, hΨ q tab hlen (tab_big htab ⟨by omega, by omega⟩ ok hl6 (by omega))⟩
    · walk_at "zz"
      exact ⟨rfl, by omega⟩
  rintro δ ⟨rfl, ha⟩
  obtain ⟨b1, b2⟩ := at_th ha
  have okt := ok2 _ b2
  generalize hts : tsf ts a = t at *
  obtain ⟨sz, un⟩ := t
  have hix : ∀ ds : List D, ds.length = ts.length → ixN ds.length (a : Int) = some a := fun ds h => by
    unfold ixN
    rw [if_pos (by omega), if_pos (by omega)]; rfl
  have hix1 := hix (ts.map thD) (by rw [List.length_map])
  have ok3 : thOk (sz + 1, un) := ⟨by have := okt.1.1; show 0 ≤ sz + 1; have h : 0 ≤ sz := this; omega, by have h : sz ≤ 120 := okt.2; show sz + 1 ≤ 121; omega, okt.1.2.2⟩
  refine nx_go (dsb_cons ?_)
  walk_at "z"
  refine dsb_cons ?_
  walk_at "z"
  refine ⟨[5, 6], ?_⟩
  walk_at "zgp"
  walk_at "z"
  refine dsb_cons ?_
  walk_at "z"
  refine dsb_cons (ds_mid (fun δ => ∃ (q : Addr) (t : Th), δ = [.own p (.ab SrcP), .val (.int start), .val (.tup (ts.map thD)), .val (nD a), .own q (.lst ((ts.set a t).map thD)), .val (.int sz), .val (.int un)] ∧ thOk t) ?_ ?_)
  · walk_at "z"
    refine draw_go ⟨by decide, by decide⟩ fun m2 m20 m21 => ?_
    walk_at "zz"
    refine if_dec (fun h => ?_) (fun h => ?_)
    · refine dsb_one ?_
      have hix2 := hix ((ts.map thD).set a (thD (sz + 1, un))) (by rw [List.length_set, List.length_map])
      walk_at "z"
      refine draw_go ⟨by decide, by decide⟩ fun m3 m30 m31 => ?_
      obtain ⟨u, hu, hat⟩ : ∃ a : Int, (1 ≤ a ∧ a ≤ 16) ∧ atI [D.int 16, .int 1, .int 2, .int 4, .int 8] m3 = some (.int a) := by
        have : m3 = 0 ∨ m3 = 1 ∨ m3 = 2 ∨ m3 = 3 ∨ m3 = 4 := by omega
        rcases this with rfl | rfl | rfl | rfl | rfl
        · exact ⟨16, by decide, rfl⟩
        · exact ⟨1, by decide, rfl⟩
        · exact ⟨2, by decide, rfl⟩
        · exact ⟨4, by decide, rfl⟩
        · exact ⟨8, by decide, rfl⟩
      walk_at "z"
      exact ⟨_, (sz, u), by rw [List.set_set, List.map_set], ⟨okt.1.1, okt.1.2.1, hu⟩⟩
    · walk_at "zz"
      exact ⟨_, (sz + 1, un), by rw [List.map_set], ok3⟩
  rintro δ ⟨q, t, rfl, ht⟩
  refine nx_go (dsb_frzS (i := 4) rfl .lst (by walk_at "zset") ?_)
  walk_at "zz"
  have ok4 := set_ok (a := a) ok ht
  refine ⟨start, _, ts.set a t, rfl, .inr rfl, by rw [List.length_set]; exact hl6, ⟨by omega, by omega⟩, ok4, fun q tab hlen htab => ?_⟩
  rw [List.length_set] at hlen
  walk_at "zz"
  exact ⟨_, _, rfl, .refl, hΨ q tab hlen (tab_big htab ⟨by omega, by omega⟩ ok4 (by rw [List.length_set]; exact hl6) (by rw [List.length_set]; omega))⟩
end

section
variable {P : Program} {w : World} {K : PySem.W.Frag} {mg : Str → Option Value} {base : Heap}
theorem big_set {r : List Int} {a : Nat} {m lo hi : Int} (h : ∀ e ∈ r, lo ≤ e ∧ e < hi) (hm : lo ≤ m ∧ m < hi) : ∀ e ∈ r.set a m, lo ≤ e ∧ e < hi := fun x hx => by
  rcases List.mem_or_eq_of_mem_set hx with h' | h'
  · exact h x h'
  · rw [h']; exact hm
theorem at_own {r : List Int} {a : Nat} (ha : a < r.length) : atI (r.map D.int) (a : Int) = some (.int r[a]) ∧ ixN (r.map D.int).length (a : Int) = some a := ⟨atI_map ha, by
  unfold ixN
  rw [if_pos (by omega), List.length_map, if_pos (by omega)]; rfl⟩
theorem ok_law_beside {f : Addr} {fd : FuncData} (F : Fun K "_law_beside" "_law_beside" st_law_beside f fd) (T : Txt mg) (C_law_draw : CalM P w K mg base 1 "_law_draw" 2 s_law_draw) (C_law_worked_out : CalP P w K mg base 1 "_law_worked_out" 3 s_law_worked_out) (C_law_other_things : CalM P w K mg base 3 "_law_other_things" 3 s_law_other_things) : FnOk P w K mg base (L2.CX P w) 4 f fd ["source", "start", "things", "right"] (spM K 4 s_law_beside) := by
  refine fn_M F sc_law_beside (by decide) fun cdv A outer s H E p c ds Ψ Ξ hr hl hS => ?_
  obtain ⟨start, ts, right, rfl, rfl, hl6, hst, ok2, hlen, htab, hΨ⟩ := hS
  have nd := sc_law_beside.nd
  show dsb _ _ [.own p (.ab SrcP), .val (.int start), .val (.tup (ts.map thD)), .val (.lst (right.map .int)), .no, .no, .no, .no, .no, .no, .no] _
  obtain ⟨p1, p2⟩ := pow6 hl6
  have ok : ∀ t ∈ ts, thOk t := fun t ht => (ok2 t ht).1
  have bigr := tab_big htab ⟨by omega, by omega⟩ ok hl6 (by omega)
  refine dsb_cons ?_
  walk_at "z"
  refine dsb_cons ?_
  walk_at "z"
  refine draw_go ⟨by omega, by omega⟩ fun m m0 m1 => ?_
  obtain ⟨a, rfl⟩ : ∃ a : Nat, m = (a : Int) := ⟨m.toNat, (Int.toNat_of_nonneg m0).symm⟩
  have ha : a < right.length := by omega
  walk_at "z"
  refine dsb_cons ?_
  walk_at "z"
  refine draw_go ⟨by decide, by decide⟩ fun m2 m20 m21 => ?_
  walk_at "z"
  refine draw_go ⟨by decide, by decide⟩ fun m3 m30 m31 => ?_
  obtain ⟨sg, hsg, hat⟩ : ∃ b : Int, (b = 1 ∨ b = -1) ∧ atI [D.int 1, .int (-1)] m3 = some (.int b) := by
    have : m3 = 0 ∨ m3 = 1 := by omega
    rcases this with rfl | rfl
    · exact ⟨1, .inl rfl, rfl⟩
    · exact ⟨-1, .inr rfl, rfl⟩
  walk_at "z"
  have chb : -5 ≤ (1 + m2) * sg ∧ (1 + m2) * sg ≤ 5 := by rcases hsg with rfl | rfl <;> omega
  generalize (1 + m2) * sg = ch at *
  refine dsb_cons ?_
  walk_at "z"
  refine draw_go ⟨by decide, by decide⟩ fun way w0 w1 => ?_
  walk_at "z"
  -- way < 3
  refine dsb_cons (ds_mid (fun δ => ∃ (q : Addr) (r : List Int), δ = [.own p (.ab SrcP), .val (.int start), .val (.tup (ts.map thD)), .val (.lst (right.map .int)), .own q (.lst (r.map .int)), .val (nD a), .val (.int ch), .val (.int way), .no, .no, .no] ∧ r.length = right.length ∧ ∀ e ∈ r, 0 ≤ e ∧ e < 10001000) ?_ ?_)
  · obtain ⟨i1, i2⟩ := at_own ha
    have e1 := bigr _ (List.getElem_mem ha)
    walk_at "zz"
    refine if_dec (fun h => ?_) (fun h => ?_)
    · walk_at "zz"
      refine ⟨_, right.set a (if right[a] + ch > 0 then right[a] + ch else 0), by rw [List.map_set], by rw [List.length_set], big_set (fun e he => by have := bigr e he; omega) ?_⟩
      split <;> omega
    · walk_at "zz"
      exact ⟨_, right, rfl, rfl, fun e he => by have := bigr e he; omega⟩
  rintro δ ⟨q1, r, rfl, rl, rb⟩
  -- way == 1
  refine nx_go (dsb_cons (ds_mid (fun δ => ∃ (a : Nat) (q : Addr) (r : List Int) (d8 : DV), δ = [.own p (.ab SrcP), .val (.int start), .val (.tup (ts.map thD)), .val (.lst (right.map .int)), .own q (.lst (r.map .int)), .val (nD a), .val (.int ch), .val (.int way), d8, .no, .no] ∧ a < right.length ∧ r.length = right.length ∧ ∀ e ∈ r, 0 ≤ e ∧ e < 10002000) ?_ ?_))
  · walk_at "zz"
    refine if_dec (fun h => ?_) (fun h => ?_)
    · refine dsb_one ?_
      walk_at "zfor"
      refine ⟨by decide, by decide, [8], fun i δ => ∃ (a : Nat) (q : Addr) (r : List Int) (d8 : DV), δ = [.own p (.ab SrcP), .val (.int start), .val (.tup (ts.map thD)), .val (.lst (right.map .int)), .own q (.lst (r.map .int)), .val (nD a), .val (.int ch), .val (.int way), d8, .no, .no] ∧ a < right.length ∧ r.length = right.length ∧ ∀ e ∈ r, 0 ≤ e ∧ e < 10001000 + 10 * (i : Int), ⟨a, _, r, _, rfl, ha, rl, fun e he => by have := rb e he; omega⟩, fun i d' δ2 hi hd' ⟨a, q, r, d8, e, ha, rl, rb⟩ => ?_, fun δ2 ⟨a, q, r, d8, e, ha, rl, rb⟩ => ⟨a, q, r, d8, e, ha, rl, fun e he => by have := rb e he; omega⟩⟩
      subst e
      subst hd'
      walk_at "zgt"
      refine dsb_cons ?_
      walk_at "z"
      refine draw_go ⟨by omega, by omega⟩ fun m m0 m1 => ?_
      obtain ⟨a, rfl⟩ : ∃ a : Nat, m = (a : Int) := ⟨m.toNat, (Int.toNat_of_nonneg m0).symm⟩
      have ha : a < r.length := by omega
      obtain ⟨i1, i2⟩ := at_own ha
      have e1 := rb _ (List.getElem_mem ha)
      walk_at "zz"
      refine ⟨a, _, r.set a (if r[a] + ch > 0 then r[a] + ch else 0), _, by rw [List.map_set], by omega, by rw [List.length_set, rl], big_set (fun e he => by have := rb e he; omega) ?_⟩
      split <;> omega
    · walk_at "zz"
      exact ⟨a, _, r, _, rfl, ha, rl, fun e he => by have := rb e he; omega⟩
  clear ha rl rb
  rintro δ ⟨a, q2, r, d8, rfl, ha, rl, rb⟩
  -- way == 2
  refine nx_go (dsb_cons (ds_mid (fun δ => ∃ (q : Addr) (r : List Int), δ = [.own p (.ab SrcP), .val (.int start), .val (.tup (ts.map thD)), .val (.lst (right.map .int)), .own q (.lst (r.map .int)), .val (nD a), .val (.int ch), .val (.int way), d8, .no, .no] ∧ r.length = right.length ∧ ∀ e ∈ r, 0 ≤ e ∧ e < 1073100000) ?_ ?_))
  · walk_at "zz"
    refine if_dec (fun h => ?_) (fun h => ?_)
    · walk_at "zz"
      refine ⟨r, _, ts, a, rfl, .inl rfl, hl6, ok, by omega, by omega, fun e he => by have := rb e he; omega, fun q r' rl' rb' _ => ?_⟩
      walk_at "zz"
      exact ⟨_, r', rfl, by omega, rb'⟩
    · walk_at "zz"
      exact ⟨_, r, rfl, rl, fun e he => by have := rb e he; omega⟩
  clear rl rb
  rintro δ ⟨q3, r, rfl, rl, rb⟩
  -- way == 3
  refine nx_go (dsb_cons (ds_mid (fun δ => ∃ (q : Addr) (r : List Int), δ = [.own p (.ab SrcP), .val (.int start), .val (.tup (ts.map thD)), .val (.lst (right.map .int)), .own q (.lst (r.map .int)), .val (nD a), .val (.int ch), .val (.int way), d8, .no, .no] ∧ (way ≠ 3 → r.length = right.length) ∧ r.length ≤ 65 ∧ ∀ e ∈ r, 0 ≤ e ∧ e < 1073100000) ?_ ?_))
  · walk_at "zz"
    refine if_dec (fun h => ?_) (fun h => ?_)
    · have ec : ∀ k : Nat, cutD (r.map D.int) none (some (k : Int)) = (r.take k).map D.int := fun k => by rw [cutD_to, List.map_take]
      refine dsb_frzS (i := 4) rfl .lst (by walk_at "zset") ?_
      refine dsb_cons ?_
      walk_at "z"
      refine draw_go ⟨by omega, by omega⟩ fun m m0 m1 => ?_
      obtain ⟨k, rfl⟩ : ∃ k : Nat, m = (k : Int) := ⟨m.toNat, (Int.toNat_of_nonneg m0).symm⟩
      walk_at "z"
      rw [ec]
      have tlen : (r.take k).length = k := by rw [List.length_take]; omega
      have tb : ∀ e ∈ r.take k, 0 ≤ e ∧ e < 1073100000 := fun e he => rb e (List.mem_of_mem_take he)
      generalize r.take k = rk at *
      have hsz : (rk.map D.int).length < sizeLine := by rw [List.length_map]; exact Nat.lt_of_le_of_lt (show rk.length ≤ 65 by omega) (by decide)
      refine dsb_one ?_
      walk_at "z"
      refine if_dec (fun h' => ?_) (fun h' => ?_)
      · have hat := atI_last (tab := rk) (n := k) tlen (by omega)
        have hx := tb _ (List.getElem_mem (show k - 1 < rk.length by omega))
        walk_at "zz"
        refine ⟨_, rk ++ [rk[k - 1]], by rw [List.map_append]; rfl, fun h => absurd ‹way = 3› h, by rw [List.length_append, List.length_singleton]; omega, fun e he => ?_⟩
        rcases List.mem_append.mp he with he | he
        · exact tb e he
        · rw [List.mem_singleton.mp he]; exact hx
      · walk_at "zz"
        exact ⟨_, rk, rfl, fun h => absurd ‹way = 3› h, by omega, tb⟩
    · walk_at "zz"
      exact ⟨_, r, rfl, fun _ => rl, by omega, rb⟩
  clear rl rb
  rintro δ ⟨q4, r, rfl, rl, rl2, rb⟩
  -- way == 4
  refine nx_go (dsb_cons (ds_mid (fun δ => ∃ (q : Addr) (r : List Int), δ = [.own p (.ab SrcP), .val (.int start), .val (.tup (ts.map thD)), .val (.lst (right.map .int)), .own q (.lst (r.map .int)), .val (nD a), .val (.int ch), .val (.int way), d8, .no, .no] ∧ (way ≠ 3 → r.length = right.length) ∧ r.length ≤ 65 ∧ ∀ e ∈ r, 0 ≤ e ∧ e < 1073741000) ?_ ?_))
  · walk_at "zz"
    refine if_dec (fun h => ?_) (fun h => ?_)
    · walk_at "zz"
      refine ⟨start, ts, rfl, rfl, hl6, hst, ok2, fun q r' rl' rb' => ?_⟩
      walk_at "zz"
      exact ⟨_, r', rfl, fun _ => by omega, by omega, fun e he => by have := rb' e he; omega⟩
    · walk_at "zz"
      exact ⟨_, r, rfl, rl, rl2, fun e he => by have := rb e he; omega⟩
  clear rl rl2 rb
  rintro δ ⟨q5, r, rfl, rl, rl2, rb⟩
  -- way == 5
  refine nx_go (dsb_cons (ds_mid (fun δ => ∃ (q : Addr) (r : List Int) (d9 : DV), δ = [.own p (.ab SrcP), .val (.int start), .val (.tup (ts.map thD)), .val (.lst (right.map .int)), .own q (.lst (r.map .int)), .val (nD a), .val (.int ch), .val (.int way), d8, d9, .no] ∧ (way ≠ 3 → r.length = right.length) ∧ r.length ≤ 65 ∧ ∀ e ∈ r, 0 ≤ e ∧ e < 1073741000) ?_ ?_))
  · walk_at "zz"
    refine if_dec (fun h => ?_) (fun h => ?_)
    · have rl := rl (by omega)
      refine dsb_cons ?_
      walk_at "z"
      refine draw_go ⟨by omega, by omega⟩ fun m m0 m1 => ?_
      obtain ⟨k, rfl⟩ : ∃ k : Nat, m = (k : Int) := ⟨m.toNat, (Int.toNat_of_nonneg m0).symm⟩
      have hk : k < right.length := by omega
      obtain ⟨i1, i2⟩ := at_own hk
      obtain ⟨j1, j2⟩ := at_own ha
      obtain ⟨k1, k2⟩ := at_own (show a < r.length by omega)
      obtain ⟨l1, l2⟩ := at_own (r := r.set a right[k]) (a := k) (by rw [List.length_set]; omega)
      rw [List.map_set] at l2
      walk_at "zz"
      have e1 := bigr _ (List.getElem_mem hk)
      have e2 := bigr _ (List.getElem_mem ha)
      exact ⟨_, (r.set a right[k]).set k right[a], _, by rw [List.map_set, List.map_set], fun _ => by rw [List.length_set, List.length_set, rl], by rw [List.length_set, List.length_set]; exact rl2, big_set (big_set rb (by omega)) (by omega)⟩
    · walk_at "zz"
      exact ⟨_, r, _, rfl, rl, rl2, rb⟩
  clear rl rl2 rb
  rintro δ ⟨q6, r, d9, rfl, rl, rl2, rb⟩
  -- way == 6
  refine nx_go (dsb_cons (ds_mid (fun δ => ∃ (q : Addr) (r : List Int) (d10 : DV), δ = [.own p (.ab SrcP), .val (.int start), .val (.tup (ts.map thD)), .val (.lst (right.map .int)), .own q (.lst (r.map .int)), .val (nD a), .val (.int ch), .val (.int way), d8, d9, d10] ∧ r.length ≤ 65 ∧ ∀ e ∈ r, big e) ?_ ?_))
  · walk_at "zz"
    refine if_dec (fun h => ?_) (fun h => ?_)
    · have rl := rl (by omega)
      refine dsb_frzS (i := 4) rfl .lst (by walk_at "zset") ?_
      refine dsb_one ?_
      have ec1 : cutD (r.map D.int) none (some (a : Int)) = (r.take a).map D.int := by rw [cutD_to, List.map_take]
      have ec2 : cutD (r.map D.int) (some (a : Int)) none = (r.drop a).map D.int := by rw [cutD_from, List.map_drop]
      have dl : (r.drop a).length ≤ 65 := by rw [List.length_drop]; omega
      have db : ∀ e ∈ r.drop a, 0 ≤ e ∧ e < 1073741000 := fun e he => rb e (List.mem_of_mem_drop he)
      have al : (r.take a).length + (r.drop a).length = r.length := by rw [List.length_take, List.length_drop]; omega
      have tb : ∀ e ∈ r.take a, 0 ≤ e ∧ e < 1073741000 := fun e he => rb e (List.mem_of_mem_take he)
      generalize r.drop a = rd at *
      generalize r.take a = rt at *
      walk_at "z"
      rw [ec1]
      walk_at "zlc"
      rw [ec2]
      refine ⟨_, _, .lst, ?_⟩
      refine ⟨_, by walk_at "zwipe", fun i => (rd[i]?).map fun e => .int (e + 1), ⟨by rw [List.length_map]; exact Nat.lt_of_le_of_lt dl (by decide), fun i d hi hd => ?_⟩, fun p' => ?_⟩
      · obtain ⟨x, hj, rfl⟩ := map_get hd
        refine lct0 (put_go (by walk_at "zset") fun s' H' C cl fp => ?_)
        walk_at "zz"
        exact ⟨by rw [hj]; rfl, rfl⟩
      rw [List.length_map, fm_map (as := rd) (g := fun e => D.int (e + 1)) (fun i a h => by rw [h]; rfl), show (rd.map fun e => D.int (e + 1)) = (rd.map fun e => e + 1).map D.int by rw [List.map_map]; rfl]
      walk_at "z"
      refine dr_cat (by rw [List.length_map, List.length_map, List.length_map, al]; exact Nat.le_trans rl2 (by decide)) fun q => ?_
      walk_at "z"
      refine ⟨q, rt ++ rd.map fun e => e + 1, _, by rw [List.map_append], by rw [List.length_append, List.length_map, al]; exact rl2, fun e he => ?_⟩
      rcases List.mem_append.mp he with he | he
      · have := tb e he; unfold big; omega
      · obtain ⟨x, hx, rfl⟩ := List.mem_map.mp he
        have := db x hx; unfold big; omega
    · walk_at "zz"
      exact ⟨_, r, _, rfl, rl2, fun e he => by have := rb e he; unfold big; omega⟩
  clear rl rl2 rb
  rintro δ ⟨q7, r, d10, rfl, rl2, rb⟩
  walk_at "zz"
  exact ⟨_, _, rfl, .refl, hΨ _ r rl2 rb⟩
end

section
variable {P : Program} {w : World} {K : PySem.W.Frag} {mg : Str → Option Value} {base : Heap}
theorem Parts.kind {rows right : List Int} {d : D} (h : Parts rows right d) : d = .non ∨ ∃ i : Int, d = .int i := by
  cases h with
  | len _ => exact .inr ⟨0, rfl⟩
  | at_ i _ _ _ _ => exact .inr ⟨i, rfl⟩
  | same _ => exact .inl rfl
theorem ok_law {f : Addr} {fd : FuncData} (F : Fun K "law" "law" st_law f fd) (T : Txt mg) (C_judge_ends : CalP P w K mg base 4 "judge_ends" 3 s_judge_ends2) (C_law_source : CalP P w K mg base 1 "_law_source" 1 s_law_source) (C_law_draw : CalM P w K mg base 1 "_law_draw" 2 s_law_draw) (C_law_things : CalM P w K mg base 2 "_law_things" 2 s_law_things) (C_law_table : CalP P w K mg base 2 "_law_table" 2 s_law_table) (C_law_beside : CalM P w K mg base 4 "_law_beside" 4 s_law_beside) (C_law_due : CalP P w K mg base 1 "_law_due" 2 s_law_due2) (C_law_right : CalP P w K mg base 2 "_law_right" 2 s_law_right2) : FnOk P w K mg base (L2.CX P w) 5 f fd ["script"] (spP K 1 s_law) := by
  refine fn_P F sc_law (by decide) fun cdv A outer s H E ds Ψ Ξ hr hl hS => ?_
  obtain ⟨ns, rfl, hn, hΨ⟩ := hS
  have nd := sc_law.nd
  show dsb _ _ [.val (.klst (ns.map .int)), .no, .no, .no, .no, .no, .no, .no, .no, .no] _
  refine dsb_cons ?_
  walk_at "z"
  refine ⟨ns, rfl, hn, fun p xs hx => ?_⟩
  walk_at "z"
  refine dsb_weakS (i := 1) rfl (.ab hx) (by walk_at "zset") ?_
  refine dsb_cons ?_
  walk_at "z"
  refine draw_go ⟨by decide, by decide⟩ fun m m0 m1 => ?_
  obtain ⟨b, hb, hat⟩ : ∃ b : Int, (b = 0 ∨ b = 65400) ∧ atI [D.int 0, .int 0, .int 65400] m = some (.int b) := by
    have : m = 0 ∨ m = 1 ∨ m = 2 := by omega
    rcases this with rfl | rfl | rfl
    · exact ⟨0, .inl rfl, rfl⟩
    · exact ⟨0, .inl rfl, rfl⟩
    · exact ⟨65400, .inr rfl, rfl⟩
  walk_at "z"
  refine draw_go ⟨by decide, by decide⟩ fun m' m0' m1' => ?_
  walk_at "z"
  generalize hst : b + m' = start
  have st0 : 0 ≤ start ∧ start < 1000000 := by omega
  have st1 : 0 ≤ start ∧ start < 1048576 := by omega
  refine dsb_cons ?_
  walk_at "z"
  refine draw_go ⟨by decide, by decide⟩ fun n0 n00 n01 => ?_
  walk_at "z"
  refine dsb_cons (ds_mid (fun δ => ∃ n : Int, δ = [.val (.klst (ns.map .int)), .own p (.ab SrcP), .val (.int start), .val (.int n), .no, .no, .no, .no, .no, .no] ∧ 0 ≤ n ∧ n ≤ 6) ?_ ?_)
  · walk_at "z"
    refine draw_go ⟨by decide, by decide⟩ fun m1 m10 m11 => ?_
    walk_at "z"
    refine if_dec (fun h => ?_) (fun h => ?_)
    · walk_at "zz"
      refine draw_go ⟨by decide, by decide⟩ fun m2 m20 m21 => ?_
      walk_at "zz"
      exact ⟨by omega, by omega⟩
    · walk_at "zz"
      exact ⟨by omega, by omega⟩
  rintro δ ⟨n, rfl, hn0, hn6⟩
  refine nx_go (dsb_cons ?_)
  walk_at "z"
  refine ⟨n, rfl, rfl, ⟨hn0, hn6⟩, fun ts htl ok2 => ?_⟩
  have ok : ∀ t ∈ ts, thOk t := fun t ht => (ok2 t ht).1
  have hl6 : ts.length ≤ 6 := by omega
  obtain ⟨p1, p2⟩ := pow6 hl6
  walk_at "z"
  refine dsb_cons ?_
  walk_at "zaf"
  refine ⟨start, _, ts, rfl, .inl rfl, hl6, st1, ok, fun q tab tl htab => ?_⟩
  walk_at "z"
  refine dsb_cons (ds_mid (fun δ => ∃ (d6 d7 d8 d9 : DV), δ = [.val (.klst (ns.map .int)), .own p (.ab SrcP), .val (.int start), .val (.int n), .val (.tup (ts.map thD)), .val (.lst (tab.map .int)), d6, d7, d8, d9]) ?_ ?_)
  · walk_at "zfor"
    refine ⟨by decide, by decide, [6], fun i δ => ∃ (d6 d7 d8 d9 : DV), δ = [.val (.klst (ns.map .int)), .own p (.ab SrcP), .val (.int start), .val (.int n), .val (.tup (ts.map thD)), .val (.lst (tab.map .int)), d6, d7, d8, d9], ⟨_, _, _, _, rfl⟩, fun i d' δ2 hi hd' ⟨d6, d7, d8, d9, e⟩ => ?_, fun δ2 h => h⟩
    subst e
    subst hd'
    have bigt : ∀ e ∈ tab, big e := fun e he => by have := tab_big htab st1 ok hl6 (by omega) e he; unfold big; omega
    walk_at "zgt"
    refine dsb_cons ?_
    walk_at "zaf"
    refine ⟨start, ts, tab, rfl, rfl, hl6, st0, ok2, tl, htab, fun q r rl rb => ?_⟩
    walk_at "z"
    refine dsb_cons ?_
    walk_at "z"
    refine ⟨r, tab, rfl, by omega, by omega, fun d hd => ?_⟩
    walk_at "z"
    refine dsb_cons ?_
    walk_at "zaf"
    refine dsb_cons ?_
    walk_at "zz"
    refine ⟨start, ts, r, tab, rfl, hl6, st1, ok, tl, htab, rb, fun d' hd' => ?_⟩
    obtain rfl := hd'.uniq hd
    walk_at "zz"
    refine ⟨d', rfl, hd.kind, ?_⟩
    walk_at "zz"
    refine dr_neSame hr (ok_ints (n := 0) r) (by decide) ?_
    walk_at "z"
    refine dsb_nil (nx_go (dsb_cons ?_))
    walk_at "zaf"
    refine dsb_cons ?_
    walk_at "zz"
    refine ⟨start, ts, tab, tab, rfl, hl6, st1, ok, tl, htab, bigt, fun d2 hd2 => ?_⟩
    obtain rfl := hd2.uniq (.same rfl)
    walk_at "zz"
    refine dr_neSame hr (ok_ints (n := 0) tab) (by decide) ?_
    walk_at "zz"
    refine ⟨start, ts, r, tab, rfl, hl6, st1, ok, tl, htab, rb, fun d' hd' => ?_⟩
    obtain rfl := hd'.uniq hd
    walk_at "zz"
    refine ⟨d', rfl, hd.kind, ?_⟩
    walk_at "zz"
    exact ⟨_, _, _, _, rfl⟩
  · rintro δ ⟨d6, d7, d8, d9, rfl⟩
    walk_at "zz"
    exact hΨ
end


theorem law_start {K : PySem.W.Frag} {H : Hp} {a : Addr} {ns : List Int} (hl : ns.length ≤ 63) (hS : SqL K H a (ns.map V.int)) : spP K 1 s_law [.ref a] H (fun v _ => v = .bl true) fun _ _ _ => False :=
  ⟨rfl, H, [.klst (ns.map .int)], (fun r => r = .val (.bl true)), fun _ => False, Le.refl _, Reps.cons ⟨a, _, rfl, hS, Reps.of_ints ns⟩ Reps.nil, ⟨ns, rfl, hl, rfl⟩, fun r v I' H' e re => by
    subst e
    exact re.rel, fun _ _ _ _ _ x => x.elim⟩

/-! ### what the top has written, the head -/
theorem all_mk {l : PySem.W.OpenLaw} {w : World} {K : PySem.W.Frag} {h : Heap} {mg : Str → Option Value} {fa : Addr} (X : K.In h) (G : h.Ns mainGlobals mg) (hfa : mg "law" = some (.ref fa))
    {f0 : Addr} {od0 an0 : Option Addr} {sl0 : Array (Option Value)} {oc0 kV0 dc0 pm0 cd0 ct0 : Value}
    (a0 : PySem.W.nsIn K mainGlobals "_law_source" = some (some (.ref f0))) (l0 : K.lookup f0 = some ⟨oc0, od0, .func (PySem.W.fnOf "_law_source" "_law_source" (defArgs st_law_source) (defBody st_law_source) (defScope st_law_source) .none kV0 dc0 pm0 an0 cd0 ct0), sl0⟩) (c0 : PySem.W.codeIn K cd0 "_law_source" = true) (k0 : PySem.W.keepIn K (.ref f0) = true)
    {f1 : Addr} {od1 an1 : Option Addr} {sl1 : Array (Option Value)} {oc1 kV1 dc1 pm1 cd1 ct1 : Value}
    (a1 : PySem.W.nsIn K mainGlobals "_law_draw" = some (some (.ref f1))) (l1 : K.lookup f1 = some ⟨oc1, od1, .func (PySem.W.fnOf "_law_draw" "_law_draw" (defArgs st_law_draw) (defBody st_law_draw) (defScope st_law_draw) .none kV1 dc1 pm1 an1 cd1 ct1), sl1⟩) (c1 : PySem.W.codeIn K cd1 "_law_draw" = true) (k1 : PySem.W.keepIn K (.ref f1) = true)
    {f2 : Addr} {od2 an2 : Option Addr} {sl2 : Array (Option Value)} {oc2 kV2 dc2 pm2 cd2 ct2 : Value}
    (a2 : PySem.W.nsIn K mainGlobals "_law_is_number" = some (some (.ref f2))) (l2 : K.lookup f2 = some ⟨oc2, od2, .func (PySem.W.fnOf "_law_is_number" "_law_is_number" (defArgs st_law_is_number) (defBody st_law_is_number) (defScope st_law_is_number) .none kV2 dc2 pm2 an2 cd2 ct2), sl2⟩) (c2 : PySem.W.codeIn K cd2 "_law_is_number" = true) (k2 : PySem.W.keepIn K (.ref f2) = true)
    {f3 : Addr} {od3 an3 : Option Addr} {sl3 : Array (Option Value)} {oc3 kV3 dc3 pm3 cd3 ct3 : Value}
    (a3 : PySem.W.nsIn K mainGlobals "_law_plain" = some (some (.ref f3))) (l3 : K.lookup f3 = some ⟨oc3, od3, .func (PySem.W.fnOf "_law_plain" "_law_plain" (defArgs st_law_plain) (defBody st_law_plain) (defScope st_law_plain) .none kV3 dc3 pm3 an3 cd3 ct3), sl3⟩) (c3 : PySem.W.codeIn K cd3 "_law_plain" = true) (k3 : PySem.W.keepIn K (.ref f3) = true)
    {f4 : Addr} {od4 an4 : Option Addr} {sl4 : Array (Option Value)} {oc4 kV4 dc4 pm4 cd4 ct4 : Value}
    (a4 : PySem.W.nsIn K mainGlobals "start_behind" = some (some (.ref f4))) (l4 : K.lookup f4 = some ⟨oc4, od4, .func (PySem.W.fnOf "start_behind" "start_behind" (defArgs st_start_behind) (defBody st_start_behind) (defScope st_start_behind) .none kV4 dc4 pm4 an4 cd4 ct4), sl4⟩) (c4 : PySem.W.codeIn K cd4 "start_behind" = true) (k4 : PySem.W.keepIn K (.ref f4) = true)
    {f5 : Addr} {od5 an5 : Option Addr} {sl5 : Array (Option Value)} {oc5 kV5 dc5 pm5 cd5 ct5 : Value}
    (a5 : PySem.W.nsIn K mainGlobals "end_with" = some (some (.ref f5))) (l5 : K.lookup f5 = some ⟨oc5, od5, .func (PySem.W.fnOf "end_with" "end_with" (defArgs st_end_with) (defBody st_end_with) (defScope st_end_with) .none kV5 dc5 pm5 an5 cd5 ct5), sl5⟩) (c5 : PySem.W.codeIn K cd5 "end_with" = true) (k5 : PySem.W.keepIn K (.ref f5) = true)
    {f6 : Addr} {od6 an6 : Option Addr} {sl6 : Array (Option Value)} {oc6 kV6 dc6 pm6 cd6 ct6 : Value}
    (a6 : PySem.W.nsIn K mainGlobals "things_in" = some (some (.ref f6))) (l6 : K.lookup f6 = some ⟨oc6, od6, .func (PySem.W.fnOf "things_in" "things_in" (defArgs st_things_in) (defBody st_things_in) (defScope st_things_in) .none kV6 dc6 pm6 an6 cd6 ct6), sl6⟩) (c6 : PySem.W.codeIn K cd6 "things_in" = true) (k6 : PySem.W.keepIn K (.ref f6) = true)
    {f7 : Addr} {od7 an7 : Option Addr} {sl7 : Array (Option Value)} {oc7 kV7 dc7 pm7 cd7 ct7 : Value}
    (a7 : PySem.W.nsIn K mainGlobals "least_behind" = some (some (.ref f7))) (l7 : K.lookup f7 = some ⟨oc7, od7, .func (PySem.W.fnOf "least_behind" "least_behind" (defArgs st_least_behind) (defBody st_least_behind) (defScope st_least_behind) .none kV7 dc7 pm7 an7 cd7 ct7), sl7⟩) (c7 : PySem.W.codeIn K cd7 "least_behind" = true) (k7 : PySem.W.keepIn K (.ref f7) = true)
    {f8 : Addr} {od8 an8 : Option Addr} {sl8 : Array (Option Value)} {oc8 kV8 dc8 pm8 cd8 ct8 : Value}
    (a8 : PySem.W.nsIn K mainGlobals "_law_things" = some (some (.ref f8))) (l8 : K.lookup f8 = some ⟨oc8, od8, .func (PySem.W.fnOf "_law_things" "_law_things" (defArgs st_law_things) (defBody st_law_things) (defScope st_law_things) .none kV8 dc8 pm8 an8 cd8 ct8), sl8⟩) (c8 : PySem.W.codeIn K cd8 "_law_things" = true) (k8 : PySem.W.keepIn K (.ref f8) = true)
    {f9 : Addr} {od9 an9 : Option Addr} {sl9 : Array (Option Value)} {oc9 kV9 dc9 pm9 cd9 ct9 : Value}
    (a9 : PySem.W.nsIn K mainGlobals "_law_end" = some (some (.ref f9))) (l9 : K.lookup f9 = some ⟨oc9, od9, .func (PySem.W.fnOf "_law_end" "_law_end" (defArgs st_law_end) (defBody st_law_end) (defScope st_law_end) .none kV9 dc9 pm9 an9 cd9 ct9), sl9⟩) (c9 : PySem.W.codeIn K cd9 "_law_end" = true) (k9 : PySem.W.keepIn K (.ref f9) = true)
    {f10 : Addr} {od10 an10 : Option Addr} {sl10 : Array (Option Value)} {oc10 kV10 dc10 pm10 cd10 ct10 : Value}
    (a10 : PySem.W.nsIn K mainGlobals "_law_orders" = some (some (.ref f10))) (l10 : K.lookup f10 = some ⟨oc10, od10, .func (PySem.W.fnOf "_law_orders" "_law_orders" (defArgs st_law_orders) (defBody st_law_orders) (defScope st_law_orders) .none kV10 dc10 pm10 an10 cd10 ct10), sl10⟩) (c10 : PySem.W.codeIn K cd10 "_law_orders" = true) (k10 : PySem.W.keepIn K (.ref f10) = true)
    {f11 : Addr} {od11 an11 : Option Addr} {sl11 : Array (Option Value)} {oc11 kV11 dc11 pm11 cd11 ct11 : Value}
    (a11 : PySem.W.nsIn K mainGlobals "judge_ends" = some (some (.ref f11))) (l11 : K.lookup f11 = some ⟨oc11, od11, .func (PySem.W.fnOf "judge_ends" "judge_ends" (defArgs st_judge_ends) (defBody st_judge_ends) (defScope st_judge_ends) .none kV11 dc11 pm11 an11 cd11 ct11), sl11⟩) (c11 : PySem.W.codeIn K cd11 "judge_ends" = true) (k11 : PySem.W.keepIn K (.ref f11) = true)
    {f12 : Addr} {od12 an12 : Option Addr} {sl12 : Array (Option Value)} {oc12 kV12 dc12 pm12 cd12 ct12 : Value}
    (a12 : PySem.W.nsIn K mainGlobals "_law_due" = some (some (.ref f12))) (l12 : K.lookup f12 = some ⟨oc12, od12, .func (PySem.W.fnOf "_law_due" "_law_due" (defArgs st_law_due) (defBody st_law_due) (defScope st_law_due) .none kV12 dc12 pm12 an12 cd12 ct12), sl12⟩) (c12 : PySem.W.codeIn K cd12 "_law_due" = true) (k12 : PySem.W.keepIn K (.ref f12) = true)
    {f13 : Addr} {od13 an13 : Option Addr} {sl13 : Array (Option Value)} {oc13 kV13 dc13 pm13 cd13 ct13 : Value}
    (a13 : PySem.W.nsIn K mainGlobals "_law_right" = some (some (.ref f13))) (l13 : K.lookup f13 = some ⟨oc13, od13, .func (PySem.W.fnOf "_law_right" "_law_right" (defArgs st_law_right) (defBody st_law_right) (defScope st_law_right) .none kV13 dc13 pm13 an13 cd13 ct13), sl13⟩) (c13 : PySem.W.codeIn K cd13 "_law_right" = true) (k13 : PySem.W.keepIn K (.ref f13) = true)
    {f14 : Addr} {od14 an14 : Option Addr} {sl14 : Array (Option Value)} {oc14 kV14 dc14 pm14 cd14 ct14 : Value}
    (a14 : PySem.W.nsIn K mainGlobals "_law_worked_out" = some (some (.ref f14))) (l14 : K.lookup f14 = some ⟨oc14, od14, .func (PySem.W.fnOf "_law_worked_out" "_law_worked_out" (defArgs st_law_worked_out) (defBody st_law_worked_out) (defScope st_law_worked_out) .none kV14 dc14 pm14 an14 cd14 ct14), sl14⟩) (c14 : PySem.W.codeIn K cd14 "_law_worked_out" = true) (k14 : PySem.W.keepIn K (.ref f14) = true)
    {f15 : Addr} {od15 an15 : Option Addr} {sl15 : Array (Option Value)} {oc15 kV15 dc15 pm15 cd15 ct15 : Value}
    (a15 : PySem.W.nsIn K mainGlobals "_law_table" = some (some (.ref f15))) (l15 : K.lookup f15 = some ⟨oc15, od15, .func (PySem.W.fnOf "_law_table" "_law_table" (defArgs st_law_table) (defBody st_law_table) (defScope st_law_table) .none kV15 dc15 pm15 an15 cd15 ct15), sl15⟩) (c15 : PySem.W.codeIn K cd15 "_law_table" = true) (k15 : PySem.W.keepIn K (.ref f15) = true)
    {f16 : Addr} {od16 an16 : Option Addr} {sl16 : Array (Option Value)} {oc16 kV16 dc16 pm16 cd16 ct16 : Value}
    (a16 : PySem.W.nsIn K mainGlobals "_law_other_things" = some (some (.ref f16))) (l16 : K.lookup f16 = some ⟨oc16, od16, .func (PySem.W.fnOf "_law_other_things" "_law_other_things" (defArgs st_law_other_things) (defBody st_law_other_things) (defScope st_law_other_things) .none kV16 dc16 pm16 an16 cd16 ct16), sl16⟩) (c16 : PySem.W.codeIn K cd16 "_law_other_things" = true) (k16 : PySem.W.keepIn K (.ref f16) = true)
    {f17 : Addr} {od17 an17 : Option Addr} {sl17 : Array (Option Value)} {oc17 kV17 dc17 pm17 cd17 ct17 : Value}
    (a17 : PySem.W.nsIn K mainGlobals "_law_beside" = some (some (.ref f17))) (l17 : K.lookup f17 = some ⟨oc17, od17, .func (PySem.W.fnOf "_law_beside" "_law_beside" (defArgs st_law_beside) (defBody st_law_beside) (defScope st_law_beside) .none kV17 dc17 pm17 an17 cd17 ct17), sl17⟩) (c17 : PySem.W.codeIn K cd17 "_law_beside" = true) (k17 : PySem.W.keepIn K (.ref f17) = true)
    {f18 : Addr} {od18 an18 : Option Addr} {sl18 : Array (Option Value)} {oc18 kV18 dc18 pm18 cd18 ct18 : Value}
    (a18 : PySem.W.nsIn K mainGlobals "law" = some (some (.ref f18))) (l18 : K.lookup f18 = some ⟨oc18, od18, .func (PySem.W.fnOf "law" "law" (defArgs st_law) (defBody st_law) (defScope st_law) .none kV18 dc18 pm18 an18 cd18 ct18), sl18⟩) (c18 : PySem.W.codeIn K cd18 "law" = true) (k18 : PySem.W.keepIn K (.ref f18) = true)
    (z_len : PySem.W.nsIn K mainGlobals "len" = some none)
    (z_range : PySem.W.nsIn K mainGlobals "range" = some none)
    (z_int : PySem.W.nsIn K mainGlobals "int" = some none)
    (z_abs : PySem.W.nsIn K mainGlobals "abs" = some none)
    (z_min : PySem.W.nsIn K mainGlobals "min" = some none)
    (z_max : PySem.W.nsIn K mainGlobals "max" = some none)
    (z_list : PySem.W.nsIn K mainGlobals "list" = some none)
    (z_tuple : PySem.W.nsIn K mainGlobals "tuple" = some none)
    (z_isinstance : PySem.W.nsIn K mainGlobals "isinstance" = some none)
    (z_bool : PySem.W.nsIn K mainGlobals "bool" = some none)
    : ∃ fd : FuncData, (∀ (s : Shared) (v : Value), BindsTo s fd ⟨[v], []⟩ [("script", v)]) ∧ ∀ base : Heap, K.In base → base.Ns mainGlobals mg → FnOk l.prog w K mg base (L2.CX l.prog w) 5 fa fd ["script"] (spP K 1 s_law) := by
  have e := hfa.symm.trans (PySem.W.mg_of X G a18)
  cases e
  have T : Txt mg := ⟨PySem.W.mg_none_of X G z_len, PySem.W.mg_none_of X G z_range, PySem.W.mg_none_of X G z_int, PySem.W.mg_none_of X G z_abs, PySem.W.mg_none_of X G z_min, PySem.W.mg_none_of X G z_max, PySem.W.mg_none_of X G z_list, PySem.W.mg_none_of X G z_tuple, PySem.W.mg_none_of X G z_isinstance, PySem.W.mg_none_of X G z_bool⟩
  have F0 := fun_mk (st := st_law_source) l0 c0 k0
  have b0 := F0.binds (ps := ["script"]) fun _ _ _ _ _ _ us hl => match us, hl with | [_], _ => rfl
  have F1 := fun_mk (st := st_law_draw) l1 c1 k1
  have b1 := F1.binds (ps := ["source", "limit"]) fun _ _ _ _ _ _ us hl => match us, hl with | [_, _], _ => rfl
  have F2 := fun_mk (st := st_law_is_number) l2 c2 k2
  have b2 := F2.binds (ps := ["thing"]) fun _ _ _ _ _ _ us hl => match us, hl with | [_], _ => rfl
  have F3 := fun_mk (st := st_law_plain) l3 c3 k3
  have b3 := F3.binds (ps := ["thing"]) fun _ _ _ _ _ _ us hl => match us, hl with | [_], _ => rfl
  have F4 := fun_mk (st := st_start_behind) l4 c4 k4
  have b4 := F4.binds (ps := ["end", "align"]) fun _ _ _ _ _ _ us hl => match us, hl with | [_, _], _ => rfl
  have F5 := fun_mk (st := st_end_with) l5 c5 k5
  have b5 := F5.binds (ps := ["end", "thing"]) fun _ _ _ _ _ _ us hl => match us, hl with | [_, _], _ => rfl
  have F6 := fun_mk (st := st_things_in) l6 c6 k6
  have b6 := F6.binds (ps := ["chosen"]) fun _ _ _ _ _ _ us hl => match us, hl with | [_], _ => rfl
  have F7 := fun_mk (st := st_least_behind) l7 c7 k7
  have b7 := F7.binds (ps := ["ends", "things", "chosen"]) fun _ _ _ _ _ _ us hl => match us, hl with | [_, _, _], _ => rfl
  have F8 := fun_mk (st := st_law_things) l8 c8 k8
  have b8 := F8.binds (ps := ["source", "count"]) fun _ _ _ _ _ _ us hl => match us, hl with | [_, _], _ => rfl
  have F9 := fun_mk (st := st_law_end) l9 c9 k9
  have b9 := F9.binds (ps := ["start", "things", "order"]) fun _ _ _ _ _ _ us hl => match us, hl with | [_, _, _], _ => rfl
  have F10 := fun_mk (st := st_law_orders) l10 c10 k10
  have b10 := F10.binds (ps := ["numbers"]) fun _ _ _ _ _ _ us hl => match us, hl with | [_], _ => rfl
  have F11 := fun_mk (st := st_judge_ends) l11 c11 k11
  have b11 := F11.binds (ps := ["start", "things", "ends"]) fun _ _ _ _ _ _ us hl => match us, hl with | [_, _, _], _ => rfl
  have F12 := fun_mk (st := st_law_due) l12 c12 k12
  have b12 := F12.binds (ps := ["rows", "right"]) fun _ _ _ _ _ _ us hl => match us, hl with | [_, _], _ => rfl
  have F13 := fun_mk (st := st_law_right) l13 c13 k13
  have b13 := F13.binds (ps := ["told", "due"]) fun _ _ _ _ _ _ us hl => match us, hl with | [_, _], _ => rfl
  have F14 := fun_mk (st := st_law_worked_out) l14 c14 k14
  have b14 := F14.binds (ps := ["rows", "things", "at"]) fun _ _ _ _ _ _ us hl => match us, hl with | [_, _, _], _ => rfl
  have F15 := fun_mk (st := st_law_table) l15 c15 k15
  have b15 := F15.binds (ps := ["start", "things"]) fun _ _ _ _ _ _ us hl => match us, hl with | [_, _], _ => rfl
  have F16 := fun_mk (st := st_law_other_things) l16 c16 k16
  have b16 := F16.binds (ps := ["source", "start", "things"]) fun _ _ _ _ _ _ us hl => match us, hl with | [_, _, _], _ => rfl
  have F17 := fun_mk (st := st_law_beside) l17 c17 k17
  have b17 := F17.binds (ps := ["source", "start", "things", "right"]) fun _ _ _ _ _ _ us hl => match us, hl with | [_, _, _, _], _ => rfl
  have F18 := fun_mk (st := st_law) l18 c18 k18
  have b18 := F18.binds (ps := ["script"]) fun _ _ _ _ _ _ us hl => match us, hl with | [_], _ => rfl
  refine ⟨PySem.W.fnOf "law" "law" (defArgs st_law) (defBody st_law) (defScope st_law) .none kV18 dc18 pm18 an18 cd18 ct18, fun s v => .of_eq rfl, fun base _ _ => ?_⟩
  have C_law_source : CalP l.prog w K mg base 1 "_law_source" 1 (s_law_source) := ⟨⟨f0, _, ["script"], ok_law_source F0 T, rfl, PySem.W.mg_of X G a0, k0, b0⟩⟩
  have C_law_draw : CalM l.prog w K mg base 1 "_law_draw" 2 (s_law_draw) := ⟨⟨f1, _, ["source", "limit"], ok_law_draw F1 T, rfl, PySem.W.mg_of X G a1, k1, b1⟩⟩
  have C_law_is_number : CalP l.prog w K mg base 1 "_law_is_number" 1 (s_law_is_number) := ⟨⟨f2, _, ["thing"], ok_law_is_number F2 T, rfl, PySem.W.mg_of X G a2, k2, b2⟩⟩
  have C_law_plain : CalP l.prog w K mg base 2 "_law_plain" 1 (s_law_plain 1) := ⟨⟨f3, _, ["thing"], ok_law_plain F3 T (PySem.W.mg_of X G a3) k3 b3 1, rfl, PySem.W.mg_of X G a3, k3, b3⟩⟩
  have C_start_behind : CalP l.prog w K mg base 1 "start_behind" 2 (s_start_behind) := ⟨⟨f4, _, ["end", "align"], ok_start_behind F4 T, rfl, PySem.W.mg_of X G a4, k4, b4⟩⟩
  have C_end_with : CalP l.prog w K mg base 2 "end_with" 2 (s_end_with) := ⟨⟨f5, _, ["end", "thing"], ok_end_with F5 T C_start_behind, rfl, PySem.W.mg_of X G a5, k5, b5⟩⟩
  have C_things_in : CalP l.prog w K mg base 1 "things_in" 1 (s_things_in) := ⟨⟨f6, _, ["chosen"], ok_things_in F6 T, rfl, PySem.W.mg_of X G a6, k6, b6⟩⟩
  have C_least_behind : CalP l.prog w K mg base 3 "least_behind" 3 (s_least_behind) := ⟨⟨f7, _, ["ends", "things", "chosen"], ok_least_behind F7 T C_end_with C_things_in, rfl, PySem.W.mg_of X G a7, k7, b7⟩⟩
  have C_law_things : CalM l.prog w K mg base 2 "_law_things" 2 (s_law_things) := ⟨⟨f8, _, ["source", "count"], ok_law_things F8 T C_law_draw, rfl, PySem.W.mg_of X G a8, k8, b8⟩⟩
  have C_law_end : CalP l.prog w K mg base 1 "_law_end" 3 (s_law_end) := ⟨⟨f9, _, ["start", "things", "order"], ok_law_end F9 T, rfl, PySem.W.mg_of X G a9, k9, b9⟩⟩
  have C_law_orders : CalP l.prog w K mg base 1 "_law_orders" 1 (s_law_orders) := ⟨⟨f10, _, ["numbers"], ok_law_orders F10 T, rfl, PySem.W.mg_of X G a10, k10, b10⟩⟩
  have C_judge_ends : CalP l.prog w K mg base 4 "judge_ends" 3 (s_judge_ends2) := ⟨⟨f11, _, ["start", "things", "ends"], ok_judge_ends F11 T C_least_behind, rfl, PySem.W.mg_of X G a11, k11, b11⟩⟩
  have C_law_due : CalP l.prog w K mg base 1 "_law_due" 2 (s_law_due2) := ⟨⟨f12, _, ["rows", "right"], ok_law_due F12 T, rfl, PySem.W.mg_of X G a12, k12, b12⟩⟩
  have C_law_right : CalP l.prog w K mg base 2 "_law_right" 2 (s_law_right2) := ⟨⟨f13, _, ["told", "due"], ok_law_right F13 T C_law_is_number, rfl, PySem.W.mg_of X G a13, k13, b13⟩⟩
  have C_law_worked_out : CalP l.prog w K mg base 1 "_law_worked_out" 3 (s_law_worked_out) := ⟨⟨f14, _, ["rows", "things", "at"], ok_law_worked_out F14 T, rfl, PySem.W.mg_of X G a14, k14, b14⟩⟩
  have C_law_table : CalP l.prog w K mg base 2 "_law_table" 2 (s_law_table) := ⟨⟨f15, _, ["start", "things"], ok_law_table F15 T C_law_worked_out C_law_orders C_law_end, rfl, PySem.W.mg_of X G a15, k15, b15⟩⟩
  have C_law_other_things : CalM l.prog w K mg base 3 "_law_other_things" 3 (s_law_other_things) := ⟨⟨f16, _, ["source", "start", "things"], ok_law_other_things F16 T C_law_draw C_law_table, rfl, PySem.W.mg_of X G a16, k16, b16⟩⟩
  have C_law_beside : CalM l.prog w K mg base 4 "_law_beside" 4 (s_law_beside) := ⟨⟨f17, _, ["source", "start", "things", "right"], ok_law_beside F17 T C_law_draw C_law_worked_out C_law_other_things, rfl, PySem.W.mg_of X G a17, k17, b17⟩⟩
  exact ok_law F18 T C_judge_ends C_law_source C_law_draw C_law_things C_law_table C_law_beside C_law_due C_law_right
theorem walk {l : PySem.W.OpenLaw} {q : Program} {loose : List Str} {XP : (Str → Option Value) → Heap → Prop} {YP : World → Heap → Prop} {d : DefRec} {K : Params → PySem.W.Frag} (hn : l.most = some 63) (hdf : d.params.defaults = [])
    (hY : ∀ (w : World) (h : Heap), YP w h → (K w.params).In h)
    (F : ∀ (w : World) (mg : Str → Option Value) (fa : Addr) (h : Heap), (K w.params).In h → h.Ns mainGlobals mg → mg d.name = some (.ref fa) →
      ∃ fd : FuncData, (∀ (s : Shared) (u : Value), BindsTo s fd ⟨[u], []⟩ [("script", u)]) ∧ ∀ base : Heap, (K w.params).In base → base.Ns mainGlobals mg → FnOk l.prog w (K w.params) mg base (L2.CX l.prog w) 5 fa fd ["script"] (spP (K w.params) 1 s_law)) :
    PySem.W.WalkO q loose XP YP l.row.toRowW d [] (fun f vs => PySem.call f vs) :=
  L2.walk_of (n := 63) (k := 5) (x := "script") (CX := fun w => L2.CX l.prog w) (sp := fun w => spP (K w.params) 1 s_law) hn (by decide) hdf ⟨rfl, by decide, by decide⟩ hY F (fun w H a ns hl ho hS => law_start hl hS) fun w H s e s' ⟨_, _, _, _, _, _, _, _, _, _, _, _, z⟩ => z
end K
open PySem PySem.W PyProof.Rows in
set_option maxRecDepth 100000 in
set_option maxHeartbeats 0 in
theorem PySem.Challenge.cw_romwright_k40_spoilt_tables_holds : PySem.Challenge.rw_romwright_k40_spoilt_tables.Holds := by
  w_on; o_law; k_head; (case hw => w_witness2)
  k_fill
  refine K.walk (l := PySem.Challenge.rw_romwright_k40_spoilt_tables) rfl rfl (fun w h Y => PySem.W.kIn_of Y) ?F
  case F =>
    intro w mg fa h KX G hmg
    refine' K.all_mk KX G hmg ?a0 ?l0 ?c0 ?k0 ?a1 ?l1 ?c1 ?k1 ?a2 ?l2 ?c2 ?k2 ?a3 ?l3 ?c3 ?k3 ?a4 ?l4 ?c4 ?k4 ?a5 ?l5 ?c5 ?k5 ?a6 ?l6 ?c6 ?k6 ?a7 ?l7 ?c7 ?k7 ?a8 ?l8 ?c8 ?k8 ?a9 ?l9 ?c9 ?k9 ?a10 ?l10 ?c10 ?k10 ?a11 ?l11 ?c11 ?k11 ?a12 ?l12 ?c12 ?k12 ?a13 ?l13 ?c13 ?k13 ?a14 ?l14 ?c14 ?k14 ?a15 ?l15 ?c15 ?k15 ?a16 ?l16 ?c16 ?k16 ?a17 ?l17 ?c17 ?k17 ?a18 ?l18 ?c18 ?k18 ?z_len ?z_range ?z_int ?z_abs ?z_min ?z_max ?z_list ?z_tuple ?z_isinstance ?z_bool
    (case a0 => k_is)
    (case l0 => k_is)
    (case c0 => k_is)
    (case k0 => k_is)
    (case a1 => k_is)
    (case l1 => k_is)
    (case c1 => k_is)
    (case k1 => k_is)
    (case a2 => k_is)
    (case l2 => k_is)
    (case c2 => k_is)
    (case k2 => k_is)
    (case a3 => k_is)
    (case l3 => k_is)
    (case c3 => k_is)
    (case k3 => k_is)
    (case a4 => k_is)
    (case l4 => k_is)
    (case c4 => k_is)
    (case k4 => k_is)
    (case a5 => k_is)
    (case l5 => k_is)
    (case c5 => k_is)
    (case k5 => k_is)
    (case a6 => k_is)
    (case l6 => k_is)
    (case c6 => k_is)
    (case k6 => k_is)
    (case a7 => k_is)
    (case l7 => k_is)
    (case c7 => k_is)
    (case k7 => k_is)
    (case a8 => k_is)
    (case l8 => k_is)
    (case c8 => k_is)
    (case k8 => k_is)
    (case a9 => k_is)
    (case l9 => k_is)
    (case c9 => k_is)
    (case k9 => k_is)
    (case a10 => k_is)
    (case l10 => k_is)
    (case c10 => k_is)
    (case k10 => k_is)
    (case a11 => k_is)
    (case l11 => k_is)
    (case c11 => k_is)
    (case k11 => k_is)
    (case a12 => k_is)
    (case l12 => k_is)
    (case c12 => k_is)
    (case k12 => k_is)
    (case a13 => k_is)
    (case l13 => k_is)
    (case c13 => k_is)
    (case k13 => k_is)
    (case a14 => k_is)
    (case l14 => k_is)
    (case c14 => k_is)
    (case k14 => k_is)
    (case a15 => k_is)
    (case l15 => k_is)
    (case c15 => k_is)
    (case k15 => k_is)
    (case a16 => k_is)
    (case l16 => k_is)
    (case c16 => k_is)
    (case k16 => k_is)
    (case a17 => k_is)
    (case l17 => k_is)
    (case c17 => k_is)
    (case k17 => k_is)
    (case a18 => k_is)
    (case l18 => k_is)
    (case c18 => k_is)
    (case k18 => k_is)
    (case z_len => k_is)
    (case z_range => k_is)
    (case z_int => k_is)
    (case z_abs => k_is)
    (case z_min => k_is)
    (case z_max => k_is)
    (case z_list => k_is)
    (case z_tuple => k_is)
    (case z_isinstance => k_is)
    (case z_bool => k_is)
