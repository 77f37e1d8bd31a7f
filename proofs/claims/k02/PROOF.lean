import PyProof.Rows.All
import Wide.All
import OpenK.AllK
import Wide.FinOn
import HandS.ForMost
import HandS.Walk
import HandS.SortInts
import HandS.IsInst
import KE.SortData
import HandS.Dict
import HandS.Iter
import KE.KeyNested
import HandS.Deep
import HandS.TupAny
import HandS.Style
import HandS.TupMul
import PyProof.Rows.InDataRows
import KE.GoesSet
import HandS.SetFor
import HandS.TupSets
import PyProof.Transfer
import HandS.Defaults
import HandS.MakeKwOnly
import HandS.DictEq
import HandS.Flt
import HandS.SetBool
import HandS.SetKeys
import HandS.DictComp
import HandS.NoneIn
import PySem.Challenge.RW_moveways_k02_whole_bodies
set_option Elab.async false
set_option linter.all false
set_option maxRecDepth 100000
set_option maxHeartbeats 4000000
set_option autoImplicit false
-- Fx0
namespace Fx
open PySem PySem.Spec L2

abbrev D := PyData
/-- the program, the world, the written part -/
structure Ev where
  P : Program
  w : World
  K : PySem.W.Frag
abbrev evX (X : Cx) : Ev := ⟨X.prog, X.w, X.K⟩
/-- no tuple -/
def NT (o : HO) : Prop := ∀ xs, o ≠ .tup xs
def keyD : Key → D
  | .inl i => .int i
  | .inr x => .str x

/-- the empty tuple of the written part -/
def KT0 (K : PySem.W.Frag) (a : Addr) : Prop := ∃ (o : Obj) (its : Array Value) (n : Nat), K.lookup a = some o ∧ o.cls = .type "tuple" ∧ o.data = .seq its n ∧ its.size ≤ sizeLine ∧ Vals [] its.toList
def TupAt (K : PySem.W.Frag) (Av : Addr → Prop) (H : Hp) (a : Addr) (xs : List V) : Prop := (¬ Av a ∧ H a = some (.tup xs)) ∨ (xs = [] ∧ KT0 K a)
theorem TupAt.sqt {K : PySem.W.Frag} {Av : Addr → Prop} {H : Hp} {a : Addr} {xs : List V} (h : TupAt K Av H a xs) : SqT K H a xs := by
  rcases h with h | ⟨rfl, h⟩
  · exact .inl (.inl h.2)
  · exact .inr h
/-! keys of nested tuples -/
mutual
def nkD : D → Option NestedKey
  | .none => some .none
  | .int i => some (.num i)
  | .str x => some (.text x)
  | .tuple ds => match ds with
    | [] => none
    | _ :: _ => (nksD ds).map .tup
  | _ => none
def nksD : List D → Option (List NestedKey)
  | [] => some []
  | d :: r => match nkD d, nksD r with
    | some k, some ks => some (k :: ks)
    | _, _ => none
end
def isTup : D → Bool
  | .tuple _ => true
  | _ => false
/-- a tuple with a tuple in it -/
def isN : D → Bool
  | .tuple ds => ds.any isTup
  | _ => false
/-- the dict at a, its keys nested tuples that stand at the addresses told -/
def NX (E : Ev) (a : Addr) (xs : List (NestedKey × Addr × V)) : Heap → Prop := fun h => ∃ vs : List (NestedKey × Addr × Value),
  Paired (fun (p : NestedKey × Addr × V) (q : NestedKey × Addr × Value) => p.1 = q.1 ∧ p.2.1 = q.2.1 ∧ RelV p.2.2 q.2.2) xs vs ∧ (a == sysModules) = false ∧ xs.length ≤ sizeLine ∧
  ∃ o es ep, h.get? a = some o ∧ o.ExactDict ∧ o.data = .dict es ep ∧ es.toList = vs.map (entryOfKey (nestedKind E.P E.w)) ∧ (vs.map (·.1)).Nodup
theorem NX.ok {E : Ev} {a : Addr} {xs : List (NestedKey × Addr × V)} {H : Hp} {h : Heap} (n : NX E a xs h) : ObjOk E.P E.w H h a (.ext (NX E a xs)) :=
  ⟨n, let ⟨_, _, _, _, o, _, _, e, _⟩ := n; ⟨o, e⟩, fun h1 h2 ⟨vs, r, s, l, o, es, ep, e, z⟩ k => ⟨vs, r, s, l, o, es, ep, k o e, z⟩⟩
section
variable (E : Ev) (Av : Addr → Prop) (H : Hp)
mutual
inductive Rep : V → D → Prop
  | non : Rep .non .none
  | bl (b : Bool) : Rep (.bl b) (.bool b)
  | int (i : Int) : Rep (.int i) (.int i)
  | str (x : Str) : Rep (.str x) (.str x)
  | tup {a : Addr} {xs : List V} {ds : List D} : TupAt E.K Av H a xs → Reps xs ds → Rep (.ref a) (.tuple ds)
  | lst {a : Addr} {xs : List V} {ds : List D} : ¬ Av a → H a = some (.lst xs) → Reps xs ds → Rep (.ref a) (.list ds)
  | dt {a : Addr} {o : Obj} {xs : List (List Key × V)} {kvs : List (D × D)} : ¬ Av a → H a = some (.frz o (.dT xs)) → EntsT xs kvs → Rep (.ref a) (.dict kvs)
  | dk {a : Addr} {o : Obj} {xs : List (Key × V)} {kvs : List (D × D)} : ¬ Av a → H a = some (.frz o (.dK xs)) → EntsK xs kvs → xs ≠ [] → Rep (.ref a) (.dict kvs)
  | dx {a : Addr} {o : Obj} {xs : List (NestedKey × Addr × V)} {kvs : List (D × D)} : ¬ Av a → H a = some (.frz o (.ext (NX E a xs))) → EntsX xs kvs → xs ≠ [] → Rep (.ref a) (.dict kvs)
inductive Reps : List V → List D → Prop
  | nil : Reps [] []
  | cons {v : V} {vs : List V} {d : D} {ds : List D} : Rep v d → Reps vs ds → Reps (v :: vs) (d :: ds)
inductive EntsT : List (List Key × V) → List (D × D) → Prop
  | nil : EntsT [] []
  | cons {k : List Key} {v : V} {d : D} {xs : List (List Key × V)} {kvs : List (D × D)} : k ≠ [] → Rep v d → EntsT xs kvs → EntsT ((k, v) :: xs) ((.tuple (k.map keyD), d) :: kvs)
inductive EntsK : List (Key × V) → List (D × D) → Prop
  | nil : EntsK [] []
  | cons {k : Key} {v : V} {d : D} {xs : List (Key × V)} {kvs : List (D × D)} : Rep v d → EntsK xs kvs → EntsK ((k, v) :: xs) ((keyD k, d) :: kvs)
inductive EntsX : List (NestedKey × Addr × V) → List (D × D) → Prop
  | nil : EntsX [] []
  | cons {k : NestedKey} {b : Addr} {v : V} {q d : D} {xs : List (NestedKey × Addr × V)} {kvs : List (D × D)} : nkD q = some k → isN q = true → k.depth ≤ 8 → Rep (.ref b) q → Rep v d → EntsX xs kvs → EntsX ((k, b, v) :: xs) ((q, d) :: kvs)
end
end

section
variable {E : Ev} {Av Av' : Addr → Prop} {H H' : Hp}
/-- what is not barred stays as it is, and stays not barred -/
def Fz (Av Av' : Addr → Prop) (H H' : Hp) : Prop := ∀ a o, ¬ Av a → H a = some o → ¬ Av' a ∧ H' a = some o
theorem Fz.refl : Fz Av Av H H := fun _ _ h e => ⟨h, e⟩
theorem Fz.trans {A1 A2 A3 : Addr → Prop} {H1 H2 H3 : Hp} (a : Fz A1 A2 H1 H2) (b : Fz A2 A3 H2 H3) : Fz A1 A3 H1 H3 := fun x o h e => let ⟨h2, e2⟩ := a x o h e; b x o h2 e2
theorem Fz.of_same {H H' : Hp} (s : Same H H') : Fz Av Av H H' := fun a o h e => ⟨h, s a o e⟩
theorem TupAt.fz {K : PySem.W.Frag} {a : Addr} {xs : List V} (f : Fz Av Av' H H') (h : TupAt K Av H a xs) : TupAt K Av' H' a xs := by
  rcases h with h | h
  · exact .inl (f _ _ h.1 h.2)
  · exact .inr h
mutual
theorem Rep.fz (f : Fz Av Av' H H') : ∀ {v : V} {d : D}, Rep E Av H v d → Rep E Av' H' v d
  | _, _, .non => .non
  | _, _, .bl b => .bl b
  | _, _, .int i => .int i
  | _, _, .str x => .str x
  | _, _, .tup h r => .tup (TupAt.fz f h) (Reps.fz f r)
  | _, _, .lst h e r => .lst (f _ _ h e).1 (f _ _ h e).2 (Reps.fz f r)
  | _, _, .dt h e r => .dt (f _ _ h e).1 (f _ _ h e).2 (EntsT.fz f r)
  | _, _, .dk h e r n => .dk (f _ _ h e).1 (f _ _ h e).2 (EntsK.fz f r) n
  | _, _, .dx h e r n => .dx (f _ _ h e).1 (f _ _ h e).2 (EntsX.fz f r) n
theorem Reps.fz (f : Fz Av Av' H H') : ∀ {vs : List V} {ds : List D}, Reps E Av H vs ds → Reps E Av' H' vs ds
  | _, _, .nil => .nil
  | _, _, .cons r t => .cons (Rep.fz f r) (Reps.fz f t)
theorem EntsT.fz (f : Fz Av Av' H H') : ∀ {xs : List (List Key × V)} {kvs : List (D × D)}, EntsT E Av H xs kvs → EntsT E Av' H' xs kvs
  | _, _, .nil => .nil
  | _, _, .cons n r t => .cons n (Rep.fz f r) (EntsT.fz f t)
theorem EntsK.fz (f : Fz Av Av' H H') : ∀ {xs : List (Key × V)} {kvs : List (D × D)}, EntsK E Av H xs kvs → EntsK E Av' H' xs kvs
  | _, _, .nil => .nil
  | _, _, .cons r t => .cons (Rep.fz f r) (EntsK.fz f t)
theorem EntsX.fz (f : Fz Av Av' H H') : ∀ {xs : List (NestedKey × Addr × V)} {kvs : List (D × D)}, EntsX E Av H xs kvs → EntsX E Av' H' xs kvs
  | _, _, .nil => .nil
  | _, _, .cons n i l q r t => .cons n i l (Rep.fz f q) (Rep.fz f r) (EntsX.fz f t)
end
theorem Reps.length {vs : List V} {ds : List D} (r : Reps E Av H vs ds) : vs.length = ds.length := by
  induction vs generalizing ds with
  | nil => cases r; rfl
  | cons v vs ih => cases r with | cons a b => simp [ih b]
theorem Reps.append : ∀ {vs us : List V} {ds es : List D}, Reps E Av H vs ds → Reps E Av H us es → Reps E Av H (vs ++ us) (ds ++ es)
  | _, _, _, _, .nil, s => s
  | _, _, _, _, .cons r t, s => .cons r (Reps.append t s)
theorem Reps.get : ∀ {vs : List V} {ds : List D} {i : Nat} {d : D}, Reps E Av H vs ds → ds[i]? = some d → ∃ v, vs[i]? = some v ∧ Rep E Av H v d
  | _, _, _, _, .nil, e => by simp at e
  | _, _, 0, _, .cons r _, e => by simp at e; subst e; exact ⟨_, rfl, r⟩
  | _, _, i + 1, d, .cons _ t, e => by
    obtain ⟨v, h1, h2⟩ := Reps.get (i := i) (d := d) t (by simpa using e)
    exact ⟨v, by simpa using h1, h2⟩
end
end Fx
-- Fx1
namespace Fx
open PySem PySem.Spec L2

/-- what a slot holds: nothing, a datum (never changed), a list or dict of its own, the town, the town's row -/
inductive C where
  | no | val (d : D) | own (d : D) | tn | rw | any | ptr | pln (d : D)
structure S where
  rho : List C
  tw : Option (List Int × Int)
structure Wt where
  ow : Nat → Option Addr
  tn : Option (Addr × Addr)
  /-- the planners: the slot, the object, its list -/
  mt : Nat → Option (Addr × Addr) := fun _ => none
structure Cfg where
  H0 : Hp
  O : Addr → Prop
  /-- where the cells .ptr point -/
  pt : Addr := 0
def Cfg.bar (G : Cfg) (p : Addr) : Cfg := { G with O := fun a => G.O a ∨ a = p }
/-- the town's addresses, and the planners' -/
def TownA (W : Wt) (a : Addr) : Prop := (∃ t, W.tn = some t ∧ (a = t.1 ∨ a = t.2)) ∨ ∃ i q, W.mt i = some q ∧ (a = q.1 ∨ a = q.2)
def Av (G : Cfg) (W : Wt) (a : Addr) : Prop := G.O a ∨ (∃ i, W.ow i = some a) ∨ TownA W a
def TownOk (tn : Option (Addr × Addr)) (H : Hp) (tw : Option (List Int × Int)) : Prop := match tn, tw with
  | none, none => True
  | some (tl, rl), some (row, n) => tl ≠ rl ∧ H tl = some (.lst [.ref rl, .int n]) ∧ H rl = some (.lst (row.map .int))
  | _, _ => False
/-- an own object's content -/
def Top (E : Ev) (A : Addr → Prop) (H : Hp) (a : Addr) : D → Prop
  | .list ds => ∃ xs, H a = some (.lst xs) ∧ Reps E A H xs ds
  | .dict kvs => (∃ xs, H a = some (.dT xs) ∧ EntsT E A H xs kvs) ∨ (∃ xs, H a = some (.dK xs) ∧ EntsK E A H xs kvs ∧ xs ≠ []) ∨ (∃ xs, H a = some (.ext (NX E a xs)) ∧ EntsX E A H xs kvs ∧ xs ≠ [])
  | _ => False

/-- a planner's fields, in the order in which they are stored -/
def pflds (p l c t : V) (b : Addr) : List (Str × V) := [("place", p), ("load", l), ("cost", c), ("last", t), ("past", .ref b)]
/-- a planner at q.1, its list at q.2; the datum: place, load, cost, last, past -/
def PlanAt (E : Ev) (A : Addr → Prop) (H : Hp) (q : Addr × Addr) (d : D) : Prop :=
  ∃ (C dx : Addr) (vp vl vc vt : V) (xs : List V) (p l c t : D) (ps : List D), d = .tuple [p, l, c, t, .list ps] ∧ PySem.W.nsIn E.K mainGlobals "Planner" = some (some (.ref C)) ∧ H q.1 = some (.ins C dx (pflds vp vl vc vt q.2)) ∧ H q.2 = some (.lst xs) ∧
    Rep E A H vp p ∧ Rep E A H vl l ∧ Rep E A H vc c ∧ Rep E A H vt t ∧ Reps E A H xs ps
structure PlOk (H0 : Hp) (W : Wt) (H : Hp) : Prop where
  fr : ∀ i q, W.mt i = some q → H0 q.1 = none ∧ H0 q.2 = none
  ex : ∀ i q, W.mt i = some q → (∃ o, H q.1 = some o ∧ NT o) ∧ ∃ o, H q.2 = some o ∧ NT o
  nt : ∀ i q t, W.mt i = some q → W.tn = some t → q.1 ≠ t.1 ∧ q.1 ≠ t.2 ∧ q.2 ≠ t.1 ∧ q.2 ≠ t.2
  ne : ∀ i q, W.mt i = some q → q.1 ≠ q.2
  dj : ∀ i j q r, W.mt i = some q → W.mt j = some r → i ≠ j → q.1 ≠ r.1 ∧ q.1 ≠ r.2 ∧ q.2 ≠ r.1 ∧ q.2 ≠ r.2
def PlCell (E : Ev) (A : Addr → Prop) (W : Wt) (H : Hp) (σ : St) (i : Nat) (d : D) : Prop := ∃ q, W.mt i = some q ∧ σ[i]? = some (some (.ref q.1)) ∧ PlanAt E A H q d
structure Rel (E : Ev) (G : Cfg) (W : Wt) (H : Hp) (σ : St) (s : S) : Prop where
  len : s.rho.length = σ.length
  fr : ∀ a o, G.H0 a = some o → ¬ TownA W a → H a = some o
  val : ∀ (i : Nat) (d : D), s.rho[i]? = some (.val d) → ∃ v, σ[i]? = some (some v) ∧ Rep E (Av G W) H v d
  own : ∀ (i : Nat) (d : D), s.rho[i]? = some (.own d) → ∃ a, W.ow i = some a ∧ σ[i]? = some (some (.ref a)) ∧ Top E (Av G W) H a d
  dom : ∀ (i : Nat) (a : Addr), W.ow i = some a → G.H0 a = none ∧ ¬ TownA W a ∧ ¬ G.O a ∧ ∃ d, s.rho[i]? = some (.own d)
  inj : ∀ i j a, W.ow i = some a → W.ow j = some a → i = j
  obj : ∀ a, G.O a → ∃ o, H a = some o ∧ NT o
  tow : TownOk W.tn H s.tw
  tnc : ∀ (i : Nat), s.rho[i]? = some .tn → ∃ tl rl, W.tn = some (tl, rl) ∧ σ[i]? = some (some (.ref tl))
  rwc : ∀ (i : Nat), s.rho[i]? = some .rw → ∃ tl rl, W.tn = some (tl, rl) ∧ σ[i]? = some (some (.ref rl))
  noc : ∀ (i : Nat), s.rho[i]? = some .no → σ[i]? = some none
  ptc : ∀ (i : Nat), s.rho[i]? = some .ptr → σ[i]? = some (some (.ref G.pt))
  pl : PlOk G.H0 W H
  plc : ∀ (i : Nat) (d : D), s.rho[i]? = some (.pln d) → PlCell E (Av G W) W H σ i d

section
variable {E : Ev} {G : Cfg} {W : Wt} {H H' : Hp} {σ : St} {s s' : S} {A B : Addr → Prop}
theorem Fz.weak (h : ∀ a, B a → A a) : Fz A B H H := fun a _ n e => ⟨fun b => n (h a b), e⟩
theorem Rep.weak {v : V} {d : D} (h : ∀ a, B a → A a) (r : Rep E A H v d) : Rep E B H v d := r.fz (Fz.weak h)
theorem Reps.weak {v : List V} {d : List D} (h : ∀ a, B a → A a) (r : Reps E A H v d) : Reps E B H v d := r.fz (Fz.weak h)
theorem Top.fz {a : Addr} {d : D} (f : Fz A B H H') (e : ∀ o, H a = some o → H' a = some o) (t : Top E A H a d) : Top E B H' a d := by
  cases d with
  | list ds => obtain ⟨xs, h, r⟩ := t; exact ⟨xs, e _ h, r.fz f⟩
  | dict kvs =>
    rcases t with ⟨xs, h, r⟩ | ⟨xs, h, r, z⟩ | ⟨xs, h, r, z⟩
    · exact .inl ⟨xs, e _ h, r.fz f⟩
    · exact .inr (.inl ⟨xs, e _ h, r.fz f, z⟩)
    · exact .inr (.inr ⟨xs, e _ h, r.fz f, z⟩)
  | _ => exact t
theorem Top.there {a : Addr} {d : D} (t : Top E A H a d) : ∃ o, H a = some o ∧ NT o ∧ Mut (some o) := by
  cases d with
  | list ds => obtain ⟨xs, h, r⟩ := t; exact ⟨_, h, fun _ z => (nomatch z), trivial⟩
  | dict kvs =>
    rcases t with ⟨xs, h, _⟩ | ⟨xs, h, _⟩ | ⟨xs, h, _⟩
    · exact ⟨_, h, fun _ z => (nomatch z), trivial⟩
    · exact ⟨_, h, fun _ z => (nomatch z), trivial⟩
    · exact ⟨_, h, fun _ z => (nomatch z), trivial⟩
  | _ => exact t.elim
/-- a new list is a datum -/
theorem Top.rep {a : Addr} {ds : List D} (n : ¬ B a) (h : ∀ x, B x → A x) (t : Top E A H a (.list ds)) : Rep E B H (.ref a) (.list ds) := by
  obtain ⟨xs, e, r⟩ := t
  exact .lst n e (r.weak h)
/-- a list, or a dict that is locked -/
def Lkd (H : Hp) (a : Addr) (H' : Hp) : D → Prop
  | .list _ => H' = H
  | .dict _ => ∃ o u, H a = some u ∧ Mut (some u) ∧ H' = upd H a (.frz o u)
  | _ => False
theorem Top.lock {a : Addr} {d : D} (n : ¬ B a) (h : ∀ x, B x → A x) (ha : A a) (t : Top E A H a d) (l : Lkd H a H' d) : Rep E B H' (.ref a) d := by
  cases d with
  | list ds => cases (show H' = H from l); exact t.rep n h
  | dict kvs =>
    obtain ⟨o, u, e, _, rfl⟩ := l
    have f : Fz A B H (upd H a (.frz o u)) := fun b v m e => ⟨fun z => m (h b z), by rw [upd_ne (fun z => m (by rw [z]; exact ha))]; exact e⟩
    rcases t with ⟨xs, e2, r⟩ | ⟨xs, e2, r, z⟩ | ⟨xs, e2, r, z⟩
    · rw [e] at e2; cases e2
      exact .dt n upd_same (r.fz f)
    · rw [e] at e2; cases e2
      exact .dk n upd_same (r.fz f) z
    · rw [e] at e2; cases e2
      exact .dx n upd_same (r.fz f) z
  | _ => exact t.elim
theorem TownOk.same {tw : Option (List Int × Int)} (k : ∀ a o, TownA W a → H a = some o → H' a = some o) (t : TownOk W.tn H tw) : TownOk W.tn H' tw := by
  unfold TownOk at *
  split at t
  · trivial
  · rename_i tl rl row n e
    obtain ⟨h1, h2, h3⟩ := t
    exact ⟨h1, k _ _ (.inl ⟨_, e, .inl rfl⟩) h2, k _ _ (.inl ⟨_, e, .inr rfl⟩) h3⟩
  · exact t
theorem PlOk.same {H0 : Hp} (p : PlOk H0 W H) (k : ∀ a o, TownA W a → H a = some o → H' a = some o) : PlOk H0 W H' where
  fr := p.fr
  ex := fun i q h => let ⟨⟨o, e, n⟩, ⟨o', e', n'⟩⟩ := p.ex i q h; ⟨⟨o, k _ _ (.inr ⟨i, q, h, .inl rfl⟩) e, n⟩, ⟨o', k _ _ (.inr ⟨i, q, h, .inr rfl⟩) e', n'⟩⟩
  nt := p.nt
  ne := p.ne
  dj := p.dj
theorem PlOk.ow {H0 : Hp} {W' : Wt} (p : PlOk H0 W H) (ht : W'.tn = W.tn := by rfl) (hm : W'.mt = W.mt := by rfl) : PlOk H0 W' H where
  fr := fun i q h => p.fr i q (by rw [← hm]; exact h)
  ex := fun i q h => p.ex i q (by rw [← hm]; exact h)
  nt := fun i q t h e => p.nt i q t (by rw [← hm]; exact h) (by rw [← ht]; exact e)
  ne := fun i q h => p.ne i q (by rw [← hm]; exact h)
  dj := fun i j q r h e => p.dj i j q r (by rw [← hm]; exact h) (by rw [← hm]; exact e)
theorem PlOk.h0 {H0 H1 : Hp} (p : PlOk H0 W H) (k : ∀ a, TownA W a → H0 a = none → H1 a = none) : PlOk H1 W H where
  fr := fun i q h => ⟨k _ (.inr ⟨i, q, h, .inl rfl⟩) (p.fr i q h).1, k _ (.inr ⟨i, q, h, .inr rfl⟩) (p.fr i q h).2⟩
  ex := p.ex
  nt := p.nt
  ne := p.ne
  dj := p.dj
theorem PlOk.sameP {H0 : Hp} (p : PlOk H0 W H) (k : ∀ i q, W.mt i = some q → ∀ a o, (a = q.1 ∨ a = q.2) → H a = some o → H' a = some o) : PlOk H0 W H' where
  fr := p.fr
  ex := fun i q h => let ⟨⟨o, e, n⟩, ⟨o', e', n'⟩⟩ := p.ex i q h; ⟨⟨o, k i q h _ _ (.inl rfl) e, n⟩, ⟨o', k i q h _ _ (.inr rfl) e', n'⟩⟩
  nt := p.nt
  ne := p.ne
  dj := p.dj
/-- no planner is older than the frame -/
theorem PlOk.not {H0 : Hp} {a : Addr} {o : HO} (p : PlOk H0 W H) (tn : W.tn = none) (h : H0 a = some o) : ¬ TownA W a := by
  rintro (⟨t, z, _⟩ | ⟨i, q, z, y⟩)
  · rw [tn] at z; cases z
  · rcases y with rfl | rfl
    · rw [(p.fr i q z).1] at h; cases h
    · rw [(p.fr i q z).2] at h; cases h
theorem PlOk.no {H0 H : Hp} {ow : Nat → Option Addr} {tn : Option (Addr × Addr)} : PlOk H0 { ow := ow, tn := tn } H := ⟨fun _ _ h => (by cases h), fun _ _ h => (by cases h), fun _ _ _ h => (by cases h), fun _ _ h => (by cases h), fun _ _ _ _ h => (by cases h)⟩
theorem PlanAt.same {q : Addr × Addr} {d : D} (p : PlanAt E A H q d) (f : Fz A B H H') (k : ∀ a o, (a = q.1 ∨ a = q.2) → H a = some o → H' a = some o) : PlanAt E B H' q d := by
  obtain ⟨C, dx, vp, vl, vc, vt, xs, p, l, c, t, ps, e, hc, h1, h2, r1, r2, r3, r4, r5⟩ := p
  exact ⟨C, dx, vp, vl, vc, vt, xs, p, l, c, t, ps, e, hc, k _ _ (.inl rfl) h1, k _ _ (.inr rfl) h2, r1.fz f, r2.fz f, r3.fz f, r4.fz f, r5.fz f⟩
theorem PlCell.stepP {σ' : St} {i : Nat} {d : D} (p : PlCell E A W H σ i d) (f : Fz A B H H') (k : ∀ i q, W.mt i = some q → ∀ a o, (a = q.1 ∨ a = q.2) → H a = some o → H' a = some o) (hs : σ'[i]? = σ[i]? := by rfl) : PlCell E B W H' σ' i d := by
  obtain ⟨q, e1, e2, e3⟩ := p
  exact ⟨q, e1, by rw [hs]; exact e2, e3.same f (k i q e1)⟩
theorem PlCell.step {W' : Wt} {σ' : St} {i : Nat} {d : D} (p : PlCell E A W H σ i d) (f : Fz A B H H') (k : ∀ a o, TownA W a → H a = some o → H' a = some o) (hs : σ'[i]? = σ[i]? := by rfl) (hm : W'.mt = W.mt := by rfl) : PlCell E B W' H' σ' i d := by
  obtain ⟨q, e1, e2, e3⟩ := p
  exact ⟨q, by rw [hm]; exact e1, by rw [hs]; exact e2, e3.same f fun a o h => k a o (.inr ⟨i, q, e1, h⟩)⟩
theorem TownOk.get {tl rl : Addr} {tw : Option (List Int × Int)} (t : TownOk (some (tl, rl)) H tw) : ∃ row n, tw = some (row, n) ∧ tl ≠ rl ∧ H tl = some (.lst [.ref rl, .int n]) ∧ H rl = some (.lst (row.map .int)) := by
  cases tw with
  | none => exact t.elim
  | some q => exact ⟨q.1, q.2, rfl, t⟩
theorem Rel.keeps (r : Rel E G W H σ s) (k : ∀ a o, H a = some o → H' a = some o) : Rel E G W H' σ s where
  len := r.len
  fr := fun a o h t => k a o (r.fr a o h t)
  val := fun i d h => let ⟨v, e, p⟩ := r.val i d h; ⟨v, e, p.fz (Fz.of_same k)⟩
  own := fun i d h => let ⟨a, e1, e2, p⟩ := r.own i d h; ⟨a, e1, e2, p.fz (Fz.of_same k) fun o => k a o⟩
  dom := r.dom
  inj := r.inj
  obj := fun a h => let ⟨o, e, z⟩ := r.obj a h; ⟨o, k a o e, z⟩
  tow := r.tow.same fun a o _ => k a o
  tnc := r.tnc
  rwc := r.rwc
  noc := r.noc
  ptc := r.ptc
  pl := r.pl.same fun a o _ => k a o
  plc := fun i d h => (r.plc i d h).step (Fz.of_same k) fun a o _ => k a o
/-- a fresh address is not barred -/
theorem Rel.free (r : Rel E G W H σ s) {p : Addr} (h : H p = none) : ¬ Av G W p := by
  rintro (o | ⟨i, e⟩ | ⟨⟨tl, rl⟩, e, z⟩ | ⟨i, q, e, z⟩)
  · obtain ⟨o, e, _⟩ := r.obj p o; rw [h] at e; cases e
  · obtain ⟨_, _, _, d, hd⟩ := r.dom i p e
    obtain ⟨a, e1, _, t⟩ := r.own i d hd
    rw [e] at e1; cases e1
    obtain ⟨o, e2, _⟩ := t.there
    rw [h] at e2; cases e2
  · have t := r.tow
    rw [e] at t
    obtain ⟨row, n, _, _, h2, h3⟩ := t.get
    rcases z with rfl | rfl
    · rw [h] at h2; cases h2
    · rw [h] at h3; cases h3
  · obtain ⟨⟨o1, e1, _⟩, ⟨o2, e2, _⟩⟩ := r.pl.ex i q e
    rcases z with rfl | rfl
    · rw [h] at e1; cases e1
    · rw [h] at e2; cases e2
theorem Rel.fresh0 (r : Rel E G W H σ s) {p : Addr} (h : H p = none) : G.H0 p = none := by
  cases e : G.H0 p with
  | none => rfl
  | some o =>
    rw [r.fr p o e fun t => r.free h (.inr (.inr t))] at h
    cases h
/-- fewer are barred -/
theorem Rel.unbar {p : Addr} (r : Rel E (G.bar p) W H σ s) : Rel E G W H σ s where
  len := r.len
  fr := r.fr
  val := fun i d h => let ⟨v, e, q⟩ := r.val i d h; ⟨v, e, q.weak fun a => fun
    | .inl z => .inl (.inl z)
    | .inr z => .inr z⟩
  own := fun i d h => let ⟨a, e1, e2, q⟩ := r.own i d h; ⟨a, e1, e2, q.fz (Fz.weak fun a => fun
    | .inl z => .inl (.inl z)
    | .inr z => .inr z) fun _ e => e⟩
  dom := fun i a h => let ⟨h1, h2, h3, h4⟩ := r.dom i a h; ⟨h1, h2, fun z => h3 (.inl z), h4⟩
  inj := r.inj
  obj := fun a h => r.obj a (.inl h)
  tow := r.tow
  tnc := r.tnc
  rwc := r.rwc
  noc := r.noc
  ptc := r.ptc
  pl := r.pl
  plc := fun i d h => (r.plc i d h).step (Fz.weak fun a => fun
    | .inl z => .inl (.inl z)
    | .inr z => .inr z) fun _ _ _ e => e
/-- a new object at p, barred -/
theorem Rel.laid {p : Addr} {o : HO} (r : Rel E G W H σ s) (h : H p = none) (hnt : NT o := by exact fun _ z => nomatch z) : Rel E (G.bar p) W (upd H p o) σ s := by
  have k : ∀ a u, H a = some u → (upd H p o) a = some u := fun a u e => by rw [upd_ne (ne_of_none e h)]; exact e
  have f : Fz (Av G W) (Av (G.bar p) W) H (upd H p o) := fun a u n e => ⟨fun
    | .inl (.inl z) => n (.inl z)
    | .inl (.inr z) => by rw [z, h] at e; cases e
    | .inr z => n (.inr z), k a u e⟩
  exact {
    len := r.len
    fr := fun a u e t => k a u (r.fr a u e t)
    val := fun i d e => let ⟨v, e1, q⟩ := r.val i d e; ⟨v, e1, q.fz f⟩
    own := fun i d e => let ⟨a, e1, e2, q⟩ := r.own i d e; ⟨a, e1, e2, q.fz f fun u => k a u⟩
    dom := fun i a e => by
      obtain ⟨h1, h2, h3, h4⟩ := r.dom i a e
      refine ⟨h1, h2, ?_, h4⟩
      rintro (z | z)
      · exact h3 z
      · subst z; exact r.free h (.inr (.inl ⟨i, e⟩))
    inj := r.inj
    obj := fun a => fun
      | .inl z => let ⟨u, e, q⟩ := r.obj a z; ⟨u, k a u e, q⟩
      | .inr z => ⟨o, by rw [z]; exact upd_same, hnt⟩
    tow := r.tow.same fun a u _ => k a u
    tnc := r.tnc
    rwc := r.rwc
    noc := r.noc
    ptc := r.ptc
    pl := r.pl.same fun a u _ => k a u
    plc := fun i d e => (r.plc i d e).step f fun a u _ => k a u }
theorem Fz.laid {p : Addr} {o : HO} (h : H p = none) (G : Cfg) (W : Wt) : Fz (Av G W) (Av (G.bar p) W) H (upd H p o) := fun a u n e => ⟨fun
    | .inl (.inl z) => n (.inl z)
    | .inl (.inr z) => by rw [z, h] at e; cases e
    | .inr z => n (.inr z), by rw [upd_ne (ne_of_none e h)]; exact e⟩
theorem Fz.unbar {p : Addr} {H1 H2 : Hp} (f : Fz A (Av (G.bar p) W) H1 H2) : Fz A (Av G W) H1 H2 := fun a u n e => let ⟨h1, h2⟩ := f a u n e; ⟨fun
    | .inl z => h1 (.inl (.inl z))
    | .inr z => h1 (.inr z), h2⟩
end

/-! ### judgements: a function on states -/
abbrev Fe := S → Option (D × S)
def SndE (E : Ev) (t : TE) (f : Fe) : Prop := ∀ G W σ H s d s', Rel E G W H σ s → f s = some (d, s') → ∀ Q : VK,
  (∀ v H', Rel E G W H' σ s' → Fz (Av G W) (Av G W) H H' → Rep E (Av G W) H' v d → Q v H') → t σ H Q
/-- a new object -/
def SndF (E : Ev) (t : TE) (f : Fe) : Prop := ∀ G W σ H s d s', Rel E G W H σ s → f s = some (d, s') → ∀ Q : VK,
  (∀ p H', H p = none → Rel E (G.bar p) W H' σ s' → Fz (Av G W) (Av (G.bar p) W) H H' → Top E (Av (G.bar p) W) H' p d → Q (.ref p) H') → t σ H Q
def SndT (E : Ev) (t : TT) (f : Fe) : Prop := ∀ G W σ H s b s', Rel E G W H σ s → f s = some (.bool b, s') → ∀ Q : Bool → Hp → Prop,
  (∀ H', Rel E G W H' σ s' → Fz (Av G W) (Av G W) H H' → Q b H') → t σ H Q
abbrev Fa := S → Option (List D × S)
def SndA (E : Ev) (t : TA) (f : Fa) : Prop := ∀ G W σ H s d s', Rel E G W H σ s → f s = some (d, s') → ∀ Q : List V → Hp → Prop,
  (∀ v H', Rel E G W H' σ s' → Fz (Av G W) (Av G W) H H' → Reps E (Av G W) H' v d → Q v H') → t σ H Q

structure VE (X : Cx) (e : Expr) (f : Fe) : Prop where
  ex : ∃ t, PE X e t ∧ SndE (evX X) t f
structure VF (X : Cx) (e : Expr) (f : Fe) : Prop where
  ex : ∃ t, PE X e t ∧ SndF (evX X) t f
structure VT (X : Cx) (e : Expr) (f : Fe) : Prop where
  ex : ∃ t, PT X e t ∧ SndT (evX X) t f
structure VA (X : Cx) (es : List Expr) (f : Fa) : Prop where
  ex : ∃ t, PA X es t ∧ SndA (evX X) t f

section
variable {X : Cx} {e a b : Expr} {f g : Fe} {pos : Pos}
/-- a new dict is locked for good -/
def tLk (t : TE) : TE := fun σ H Q => t σ H fun v H1 => Q v H1 ∨ ∃ a u, v = .ref a ∧ H1 a = some u ∧ Mut (some u) ∧ ∀ o, Q v (upd H1 a (.frz o u))
theorem pe_lk {t : TE} (h : PE X e t) : PE X e (tLk t) := by
  refine ⟨fun pins s σ H Q I q => thn (h.run pins s σ H _ I q) fun v s1 ⟨x, H1, I1, r1, q1⟩ => ?_⟩
  rcases q1 with q1 | ⟨a, u, rfl, e1, mu, q1⟩
  · exact ⟨x, H1, I1, r1, q1⟩
  · obtain ⟨od, I2⟩ := I1.lock e1 mu
    exact ⟨_, _, I2, r1, q1 od⟩
theorem Rel.locked {E : Ev} {G : Cfg} {W : Wt} {H H' : Hp} {σ : St} {s : S} {p : Addr} {d : D} (R : Rel E (G.bar p) W H σ s) (h0 : G.H0 p = none) (hw : ∀ i, W.ow i ≠ some p) (hnt : ¬ TownA W p) (l : Lkd H p H' d) : Rel E (G.bar p) W H' σ s := by
  cases d with
  | list ds => cases (show H' = H from l); exact R
  | dict kvs =>
    obtain ⟨o, u, e, mu, rfl⟩ := l
    have ha : Av (G.bar p) W p := .inl (.inr rfl)
    have f : Fz (Av (G.bar p) W) (Av (G.bar p) W) H (upd H p (.frz o u)) := fun b v m e => ⟨m, by rw [upd_ne (fun z => m (by rw [z]; exact ha))]; exact e⟩
    exact {
      len := R.len
      fr := fun a v e t => by rw [upd_ne fun z => by rw [z] at e; rw [show (G.bar p).H0 p = G.H0 p from rfl, h0] at e; cases e]; exact R.fr a v e t
      val := fun i d e => let ⟨v, e1, q⟩ := R.val i d e; ⟨v, e1, q.fz f⟩
      own := fun i d e => by
        obtain ⟨a, e1, e2, q⟩ := R.own i d e
        exact ⟨a, e1, e2, q.fz f fun v h => by rw [upd_ne fun z => hw i (by rw [← z]; exact e1)]; exact h⟩
      dom := R.dom
      inj := R.inj
      obj := fun a h => by
        by_cases z : a = p
        · rw [z]; exact ⟨_, upd_same, fun _ z => nomatch z⟩
        · rw [upd_ne z]; exact R.obj a h
      tow := R.tow.same fun a v h e => by rw [upd_ne fun z => hnt (by rw [← z]; exact h)]; exact e
      tnc := R.tnc
      rwc := R.rwc
      noc := R.noc
      ptc := R.ptc
      pl := R.pl.same fun a v h e => by rw [upd_ne fun z => hnt (by rw [← z]; exact h)]; exact e
      plc := fun i d h => (R.plc i d h).step f fun a v h e => by rw [upd_ne fun z => hnt (by rw [← z]; exact h)]; exact e }
  | _ => exact l.elim
theorem VF.ve (h : VF X e f) : VE X e f := by
  obtain ⟨t, p, sn⟩ := h.ex
  refine ⟨_, pe_lk p, fun G W σ H s d s' r hf Q hq => sn G W σ H s d s' r hf _ fun q H' hn r' fz tp => ?_⟩
  have fin : ∀ H2, Lkd H' q H2 d → Fz (Av (G.bar q) W) (Av (G.bar q) W) H' H2 → Q (.ref q) H2 := fun H2 l z => by
    refine hq _ H2 (r'.locked (r.fresh0 hn) (fun i e => (r'.dom i q e).2.2.1 (.inr rfl)) (fun z => r.free hn (.inr (.inr z))) l).unbar (fz.trans z).unbar (tp.lock (fun z => r.free hn z) (fun x z => ?_) (.inl (.inr rfl)) l)
    rcases z with z | z
    · exact .inl (.inl z)
    · exact .inr z
  obtain ⟨u, e1, _, mu⟩ := tp.there
  cases d with
  | list ds => exact .inl (fin H' rfl Fz.refl)
  | dict kvs => exact .inr ⟨q, u, rfl, e1, mu, fun o => fin _ ⟨o, u, e1, mu, rfl⟩ fun b v m e => ⟨m, by rw [upd_ne (fun z => m (by rw [z]; exact .inl (.inr rfl)))]; exact e⟩⟩
  | _ => exact tp.elim

/-! ### names and constants -/
def eVar (i : Nat) : Fe := fun s => match s.rho[i]? with
  | some (.val d) => some (d, s)
  | _ => none
theorem ve_pe {t : TE} (h : PE X e t) (sn : SndE (evX X) t f) : VE X e f := ⟨t, h, sn⟩
theorem snd_var {E : Ev} (i : Nat) : SndE E (tVar i) (eVar i) := by
  intro G W σ H s d s' r hf Q hq
  unfold eVar at hf
  split at hf
  · rename_i d' e
    cases hf
    obtain ⟨v, e1, q⟩ := r.val i d e
    exact ⟨v, e1, hq v H r Fz.refl q⟩
  · cases hf
theorem ve_var (i : Nat) {x : Str} (hN : X.N[i]? = some x := by rfl) (hv : Vis X.env.scope x := by first | exact Or.inl rfl | exact Or.inr (Or.inl rfl) | exact Or.inr (Or.inr rfl)) (hd : (x == ("__debug__" : Str)) = false := by decide)
    (hcd : (x == ("__classdict__" : Str)) = false := by decide) : VE X (.Name x pos) (eVar i) := ⟨_, pe_var hN hv hd hcd, snd_var i⟩
def eC (d : D) : Fe := fun s => some (d, s)
theorem snd_c {E : Ev} {v : V} {d : D} (h : ∀ A H, Rep E A H v d) : SndE E (tC v) (eC d) := by
  intro G W σ H s d' s' r hf Q hq
  cases hf
  exact hq v H r Fz.refl (h _ _)
theorem ve_int {i : Int} {j : Nat} : VE X (.Constant (.int i) j pos) (eC (.int i)) := ⟨_, pe_int, snd_c fun _ _ => .int i⟩
theorem ve_bl {b : Bool} {j : Nat} : VE X (.Constant (.bool b) j pos) (eC (.bool b)) := ⟨_, pe_bl, snd_c fun _ _ => .bl b⟩
theorem ve_non {j : Nat} : VE X (.Constant .none j pos) (eC .none) := ⟨_, pe_non, snd_c fun _ _ => .non⟩
theorem ve_str {x : Str} {j : Nat} : VE X (.Constant (.str x) j pos) (eC (.str x)) := ⟨_, pe_str, snd_c fun _ _ => .str x⟩
theorem ve_gint {x : Str} {i : Int} {t : Tok} (hg : Gl X x) (hm : X.mg x = some (.int i t)) (hd : (x == ("__debug__" : Str)) = false := by decide) : VE X (.Name x pos) (eC (.int i)) :=
  ⟨_, pe_glob (v := .int i) hg hm ⟨t, rfl⟩ hd, snd_c fun _ _ => .int i⟩

end
end Fx
-- Fx2
namespace Fx
open PySem PySem.Spec L2

/-! ### two operands -/
/-- nothing new is barred -/
def Fre (A : Addr → Prop) (H : Hp) : Prop := ∀ a, A a → ∃ o, H a = some o ∧ NT o
theorem Fre.no {A : Addr → Prop} {H : Hp} (f : Fre A H) {p : Addr} (h : H p = none) : ¬ A p := fun z => by
  obtain ⟨o, e, _⟩ := f p z
  rw [h] at e; cases e
theorem Fre.tup {A : Addr → Prop} {H : Hp} (f : Fre A H) {p : Addr} {xs : List V} (h : H p = some (.tup xs)) : ¬ A p := fun z => by
  obtain ⟨o, e, n⟩ := f p z
  rw [h] at e; cases e; exact n xs rfl
theorem Rel.fre {E : Ev} {G : Cfg} {W : Wt} {H : Hp} {σ : L2.St} {s : S} (r : Rel E G W H σ s) : Fre (Av G W) H := by
  rintro p (o | ⟨i, e⟩ | ⟨⟨tl, rl⟩, e, z⟩ | ⟨i, q, e, z⟩)
  · exact r.obj p o
  · obtain ⟨_, _, _, d, hd⟩ := r.dom i p e
    obtain ⟨a, e1, _, t⟩ := r.own i d hd
    rw [e] at e1; cases e1
    obtain ⟨o, e2, n, _⟩ := t.there
    exact ⟨o, e2, n⟩
  · have t := r.tow
    rw [e] at t
    obtain ⟨row, n, _, _, h2, h3⟩ := t.get
    rcases z with rfl | rfl
    · exact ⟨_, h2, fun _ z => nomatch z⟩
    · exact ⟨_, h3, fun _ z => nomatch z⟩
  · rcases z with rfl | rfl
    · exact (r.pl.ex i q e).1
    · exact (r.pl.ex i q e).2
theorem Rel.same {E : Ev} {G : Cfg} {W : Wt} {H H' : Hp} {σ : L2.St} {s : S} (r : Rel E G W H σ s) (k : Same H H') : Rel E G W H' σ s := r.keeps k
/-- an operation on values as a function on data -/
def SndR (E : Ev) (r : R2) (g : D → D → Option D) : Prop := ∀ A H, Fre A H → ∀ x y dx dy dz, Rep E A H x dx → Rep E A H y dy → g dx dy = some dz → ∀ Q : VK,
  (∀ z H', Same H H' → Rep E A H' z dz → Q z H') → r x y H Q
/-- .. whose value is no object -/
def SndRS (E : Ev) (r : R2) (g : D → D → Option D) : Prop := ∀ A H x y dx dy dz, Rep E A H x dx → Rep E A H y dy → g dx dy = some dz → ∀ Q : VK,
  (∀ z, (∀ B H', Rep E B H' z dz) → Q z H) → r x y H Q
/-- .. whose value is a new list -/
def SndRF (E : Ev) (r : R2) (g : D → D → Option D) : Prop := ∀ A H x y dx dy dz, Rep E A H x dx → Rep E A H y dy → g dx dy = some dz → ∀ Q : VK,
  (∀ p xs ds, H p = none → dz = .list ds → Reps E A H xs ds → Q (.ref p) (upd H p (.lst xs))) → r x y H Q
theorem SndRS.r {E : Ev} {r : R2} {g : D → D → Option D} (h : SndRS E r g) : SndR E r g := fun A H _ x y dx dy dz rx ry e Q hq => h A H x y dx dy dz rx ry e Q fun z hz => hq z H (Same.refl H) (hz A H)

def eBin (g : D → D → Option D) (f1 f2 : Fe) : Fe := fun s => (f1 s).bind fun (x, s1) => (f2 s1).bind fun (y, s2) => (g x y).map fun z => (z, s2)
def eUn (g : D → Option D) (f1 : Fe) : Fe := fun s => (f1 s).bind fun (x, s1) => (g x).map fun z => (z, s1)
theorem eBin_some {g : D → D → Option D} {f1 f2 : Fe} {s s' : S} {d : D} (h : eBin g f1 f2 s = some (d, s')) : ∃ x s1 y, f1 s = some (x, s1) ∧ f2 s1 = some (y, s') ∧ g x y = some d := by
  unfold eBin at h
  simp only [Option.bind_eq_some_iff, Option.map_eq_some_iff] at h
  obtain ⟨⟨x, s1⟩, h1, ⟨y, s2⟩, h2, z, h3, h4⟩ := h
  cases h4
  exact ⟨x, s1, y, h1, h2, h3⟩
theorem eUn_some {g : D → Option D} {f1 : Fe} {s s' : S} {d : D} (h : eUn g f1 s = some (d, s')) : ∃ x, f1 s = some (x, s') ∧ g x = some d := by
  unfold eUn at h
  simp only [Option.bind_eq_some_iff, Option.map_eq_some_iff] at h
  obtain ⟨⟨x, s1⟩, h1, z, h3, h4⟩ := h
  cases h4
  exact ⟨x, h1, h3⟩
section
variable {E : Ev} {t ta tb tc : TE} {f f1 f2 f3 : Fe} {r r' : R2} {g g' : D → D → Option D}
theorem snd_op (ha : SndE E ta f1) (hb : SndE E tb f2) (hr : SndR E r g) : SndE E (tOp r ta tb) (eBin g f1 f2) := by
  intro G W σ H s d s' R hf Q hq
  obtain ⟨x, s1, y, h1, h2, h3⟩ := eBin_some hf
  refine ha G W σ H s x s1 R h1 _ fun v H1 R1 z1 p1 => ?_
  refine hb G W σ H1 s1 y s' R1 h2 _ fun u H2 R2 z2 p2 => ?_
  refine hr _ H2 R2.fre v u x y d (p1.fz z2) p2 h3 _ fun z H3 sm p3 => ?_
  exact hq z H3 (R2.same sm) ((z1.trans z2).trans (Fz.of_same sm)) p3
theorem Fz.laid' {G : Cfg} {W : Wt} {H1 H2 : Hp} {p : Addr} {o : HO} (z : Fz (Av G W) (Av G W) H1 H2) (h : H2 p = none) : Fz (Av G W) (Av (G.bar p) W) H1 (upd H2 p o) := z.trans (Fz.laid h G W)
theorem new_list {G : Cfg} {W : Wt} {H : Hp} {p : Addr} {xs : List V} {ds : List D} (h : H p = none) (rs : Reps E (Av G W) H xs ds) : Top E (Av (G.bar p) W) (upd H p (.lst xs)) p (.list ds) :=
  ⟨xs, upd_same, rs.fz (Fz.laid h G W)⟩
theorem none_back {G : Cfg} {W : Wt} {σ : L2.St} {s : S} {H H' : Hp} {p : Addr} (R : Rel E G W H σ s) (z : Fz (Av G W) (Av G W) H H') (R' : ∀ a, Av G W a → ∃ o, H' a = some o) (h : H' p = none) : H p = none := by
  cases e : H p with
  | none => rfl
  | some o =>
    by_cases q : Av G W p
    · obtain ⟨o', e'⟩ := R' p q
      rw [h] at e'; cases e'
    · have := (z p o q e).2
      rw [h] at this; cases this
theorem Rel.there {G : Cfg} {W : Wt} {σ : L2.St} {s : S} {H : Hp} (R : Rel E G W H σ s) : ∀ a, Av G W a → ∃ o, H a = some o := fun a h => by
  cases e : H a with
  | none => exact absurd h (R.free e)
  | some o => exact ⟨o, rfl⟩
theorem snd_opF (ha : SndE E ta f1) (hb : SndE E tb f2) (hr : SndRF E r g) : SndF E (tOp r ta tb) (eBin g f1 f2) := by
  intro G W σ H s d s' R hf Q hq
  obtain ⟨x, s1, y, h1, h2, h3⟩ := eBin_some hf
  refine ha G W σ H s x s1 R h1 _ fun v H1 R1 z1 p1 => ?_
  refine hb G W σ H1 s1 y s' R1 h2 _ fun u H2 R2 z2 p2 => ?_
  refine hr _ H2 v u x y d (p1.fz z2) p2 h3 _ fun p xs ds hn e rs => ?_
  subst e
  exact hq p _ (none_back R (z1.trans z2) R2.there hn) (R2.laid hn) ((z1.trans z2).laid' hn) (new_list hn rs)
theorem snd_test (h : SndE E t f) : SndT E (tTest t) f := by
  intro G W σ H s b s' R hf Q hq
  refine h G W σ H s _ s' R hf _ fun v H1 R1 z1 p1 => ?_
  cases p1
  exact ⟨b, rfl, hq H1 R1 z1⟩
theorem snd_tb (h : SndE E t f) : SndT E (tB t) f := by
  intro G W σ H s b s' R hf Q hq
  refine h G W σ H s _ s' R hf _ fun v H1 R1 z1 p1 => ?_
  cases p1
  exact ⟨b, rfl, hq H1 R1 z1⟩
end
section
variable {X : Cx} {a b c : Expr} {f f1 f2 f3 : Fe} {r r' : R2} {g g' : D → D → Option D} {pos : Pos}
theorem ve_op {op : Operator} (ho : OpR X (binaryOp op) r) (hr : SndR (evX X) r g) (ha : VE X a f1) (hb : VE X b f2) : VE X (.BinOp a op b pos) (eBin g f1 f2) := by
  obtain ⟨ta, pa, sa⟩ := ha.ex
  obtain ⟨tb, pb, sb⟩ := hb.ex
  exact ⟨_, pe_op ho pa pb, snd_op sa sb hr⟩
theorem vf_op {op : Operator} (ho : OpR X (binaryOp op) r) (hr : SndRF (evX X) r g) (ha : VE X a f1) (hb : VE X b f2) : VF X (.BinOp a op b pos) (eBin g f1 f2) := by
  obtain ⟨ta, pa, sa⟩ := ha.ex
  obtain ⟨tb, pb, sb⟩ := hb.ex
  exact ⟨_, pe_op ho pa pb, snd_opF sa sb hr⟩
theorem ve_cmp {op : CmpOp} (ho : OpR X (compareOp op) r) (hr : SndR (evX X) r g) (ha : VE X a f1) (hb : VE X b f2) (hm : behindInMarks op b = false := by first | exact nomark _ | rfl) : VE X (.Compare a [op] [b] pos) (eBin g f1 f2) := by
  obtain ⟨ta, pa, sa⟩ := ha.ex
  obtain ⟨tb, pb, sb⟩ := hb.ex
  exact ⟨_, pe_cmpR ho pa pb hm, snd_op sa sb hr⟩
theorem vt_cmp {op : CmpOp} (ho : OpR X (compareOp op) r) (hr : SndR (evX X) r g) (ha : VE X a f1) (hb : VE X b f2) (hm : behindInMarks op b = false := by first | exact nomark _ | rfl) : VT X (.Compare a [op] [b] pos) (eBin g f1 f2) := by
  obtain ⟨ta, pa, sa⟩ := ha.ex
  obtain ⟨tb, pb, sb⟩ := hb.ex
  exact ⟨_, pt_cmpR ho pa pb hm, snd_test (snd_op sa sb hr)⟩
theorem ve_un {op : UnaryOp} {r : V → Hp → VK → Prop} {g : D → Option D} (ho : UnR X (unaryOp op) r) (hr : ∀ A H x dx dz, Rep (evX X) A H x dx → g dx = some dz → ∀ Q : VK, (∀ z, (∀ B H', Rep (evX X) B H' z dz) → Q z H) → r x H Q) (ha : VE X a f1) :
    VE X (.UnaryOp op a pos) (eUn g f1) := by
  obtain ⟨ta, pa, sa⟩ := ha.ex
  refine ⟨_, pe_un ho pa, ?_⟩
  intro G W σ H s d s' R hf Q hq
  obtain ⟨x, h1, h3⟩ := eUn_some hf
  refine sa G W σ H s x s' R h1 _ fun v H1 R1 z1 p1 => ?_
  exact hr _ H1 v x d p1 h3 _ fun z hz => hq z H1 R1 z1 (hz _ _)
/-- a < b < c -/
def eChain (g g' : D → D → Option D) (f1 f2 f3 : Fe) : Fe := fun s => (f1 s).bind fun (x, s1) => (f2 s1).bind fun (y, s2) => (g x y).bind fun k => match k with
  | .bool true => (f3 s2).bind fun (z, s3) => (g' y z).map fun u => (u, s3)
  | .bool false => some (.bool false, s2)
  | _ => none
theorem eChain_some {g g' : D → D → Option D} {f1 f2 f3 : Fe} {s s' : S} {d : D} (h : eChain g g' f1 f2 f3 s = some (d, s')) : ∃ x s1 y s2, f1 s = some (x, s1) ∧ f2 s1 = some (y, s2) ∧
    ((g x y = some (.bool true) ∧ ∃ z, f3 s2 = some (z, s') ∧ g' y z = some d) ∨ (g x y = some (.bool false) ∧ d = .bool false ∧ s' = s2)) := by
  unfold eChain at h
  simp only [Option.bind_eq_some_iff] at h
  obtain ⟨⟨x, s1⟩, h1, ⟨y, s2⟩, h2, k, h3, h4⟩ := h
  refine ⟨x, s1, y, s2, h1, h2, ?_⟩
  dsimp only at h3 h4
  split at h4
  · simp only [Option.bind_eq_some_iff, Option.map_eq_some_iff] at h4
    obtain ⟨⟨z, s3⟩, h5, u, h6, h7⟩ := h4
    cases h7
    exact .inl ⟨h3, z, h5, h6⟩
  · cases h4
    exact .inr ⟨h3, rfl, rfl⟩
  · cases h4
theorem snd_chain {E : Ev} {ta tb tc : TE} (ha : SndE E ta f1) (hb : SndE E tb f2) (hc : SndE E tc f3) (hr : SndRS E r g) (hr' : SndRS E r' g') : SndE E (tChain r r' ta tb tc) (eChain g g' f1 f2 f3) := by
  intro G W σ H s d s' R hf Q hq
  obtain ⟨x, s1, y, s2, h1, h2, h3⟩ := eChain_some hf
  refine ha G W σ H s x s1 R h1 _ fun v H1 R1 z1 p1 => ?_
  refine hb G W σ H1 s1 y s2 R1 h2 _ fun u H2 R2 z2 p2 => ?_
  rcases h3 with ⟨h3, z, h4, h5⟩ | ⟨h3, rfl, rfl⟩
  · refine hr _ H2 v u x y _ (p1.fz z2) p2 h3 _ fun z' hz' => ?_
    have q := hz' (fun _ => False) H2
    cases q
    refine ⟨true, rfl, ?_⟩
    rw [if_pos rfl]
    refine hc G W σ H2 s2 z s' R2 h4 _ fun v3 H3 R3 z3 p3 => ?_
    exact hr' _ H3 u v3 y z d (p2.fz z3) p3 h5 _ fun z'' hz'' => hq z'' H3 R3 ((z1.trans z2).trans z3) (hz'' _ _)
  · refine hr _ H2 v u x y _ (p1.fz z2) p2 h3 _ fun z' hz' => ?_
    have q := hz' (fun _ => False) H2
    cases q
    refine ⟨false, rfl, ?_⟩
    rw [if_neg Bool.false_ne_true]
    exact hq _ H2 R2 (z1.trans z2) (.bl false)
theorem ve_chain {op op' : CmpOp} (ho : OpR X (compareOp op) r) (ho' : OpR X (compareOp op') r') (hr : SndRS (evX X) r g) (hr' : SndRS (evX X) r' g') (ha : VE X a f1) (hb : VE X b f2) (hc : VE X c f3) (hm : lastMarks [op, op'] [b, c] = false := by first | rfl | (first | decide | simp [lastMarks])) :
    VE X (.Compare a [op, op'] [b, c] pos) (eChain g g' f1 f2 f3) := by
  obtain ⟨ta, pa, sa⟩ := ha.ex
  obtain ⟨tb, pb, sb⟩ := hb.ex
  obtain ⟨tc, pc, sc⟩ := hc.ex
  exact ⟨_, pe_chain ho ho' pa pb pc hm, snd_chain sa sb sc hr hr'⟩
theorem vt_chain {op op' : CmpOp} (ho : OpR X (compareOp op) r) (ho' : OpR X (compareOp op') r') (hr : SndRS (evX X) r g) (hr' : SndRS (evX X) r' g') (ha : VE X a f1) (hb : VE X b f2) (hc : VE X c f3) (hm : lastMarks [op, op'] [b, c] = false := by first | rfl | (first | decide | simp [lastMarks])) :
    VT X (.Compare a [op, op'] [b, c] pos) (eChain g g' f1 f2 f3) := by
  obtain ⟨ta, pa, sa⟩ := ha.ex
  obtain ⟨tb, pb, sb⟩ := hb.ex
  obtain ⟨tc, pc, sc⟩ := hc.ex
  exact ⟨_, pt_chain ho ho' pa pb pc hm, snd_test (snd_chain sa sb sc hr hr')⟩
/-! ### and, or, not, if -/
def eAnd (f1 f2 : Fe) : Fe := fun s => (f1 s).bind fun (x, s1) => match x with
  | .bool true => f2 s1
  | .bool false => some (.bool false, s1)
  | _ => none
def eOr (f1 f2 : Fe) : Fe := fun s => (f1 s).bind fun (x, s1) => match x with
  | .bool true => some (.bool true, s1)
  | .bool false => f2 s1
  | _ => none
def notD : D → Option D
  | .bool b => some (.bool (!b))
  | _ => none
def eIf (c f1 f2 : Fe) : Fe := fun s => (c s).bind fun (x, s1) => match x with
  | .bool true => f1 s1
  | .bool false => f2 s1
  | _ => none
theorem eIf_some {s s' : S} {d : D} (h : eIf f f1 f2 s = some (d, s')) : ∃ s1, (f s = some (.bool true, s1) ∧ f1 s1 = some (d, s')) ∨ (f s = some (.bool false, s1) ∧ f2 s1 = some (d, s')) := by
  unfold eIf at h
  simp only [Option.bind_eq_some_iff] at h
  obtain ⟨⟨x, s1⟩, h1, h2⟩ := h
  refine ⟨s1, ?_⟩
  dsimp only at h2
  split at h2
  · exact .inl ⟨h1, h2⟩
  · exact .inr ⟨h1, h2⟩
  · cases h2
theorem eAnd_if : eAnd f1 f2 = eIf f1 f2 (eC (.bool false)) := rfl
theorem eOr_if : eOr f1 f2 = eIf f1 (eC (.bool true)) f2 := rfl
theorem ve_not (ha : VE X a f1) : VE X (.UnaryOp .Not a pos) (eUn notD f1) := by
  obtain ⟨ta, pa, sa⟩ := ha.ex
  refine ⟨_, pe_not pa, ?_⟩
  intro G W σ H s d s' R hf Q hq
  obtain ⟨x, h1, h3⟩ := eUn_some hf
  refine sa G W σ H s x s' R h1 _ fun v H1 R1 z1 p1 => ?_
  cases x <;> cases h3
  cases p1
  exact ⟨_, rfl, hq _ H1 R1 z1 (.bl _)⟩
theorem vt_not (ha : VT X a f1) : VT X (.UnaryOp .Not a pos) (eUn notD f1) := by
  obtain ⟨ta, pa, sa⟩ := ha.ex
  refine ⟨_, pt_not pa, ?_⟩
  intro G W σ H s d s' R hf Q hq
  obtain ⟨x, h1, h3⟩ := eUn_some hf
  cases x <;> cases h3
  exact sa G W σ H s _ s' R h1 _ fun H1 R1 z1 => hq H1 R1 z1
/-- the last of and, or -/
theorem ve_one {op : BoolOp} (h : VE X a f) : VE X (.BoolOp op [a] pos) f := by
  obtain ⟨t, p, sn⟩ := h.ex
  exact ⟨_, pe_one p, sn⟩
theorem ve_and {rest : List Expr} (ha : VE X a f1) (hb : VE X (.BoolOp .And (b :: rest) pos) f2) : VE X (.BoolOp .And (a :: b :: rest) pos) (eAnd f1 f2) := by
  obtain ⟨ta, pa, sa⟩ := ha.ex
  obtain ⟨tb, pb, sb⟩ := hb.ex
  refine ⟨_, pe_and pa pb, ?_⟩
  intro G W σ H s d s' R hf Q hq
  rw [eAnd_if] at hf
  obtain ⟨s1, ⟨h1, h2⟩ | ⟨h1, h2⟩⟩ := eIf_some hf
  · refine sa G W σ H s _ _ R h1 _ fun v H1 R1 z1 p1 => ?_
    cases p1
    refine ⟨true, rfl, ?_⟩
    rw [if_pos rfl]
    exact sb G W σ H1 s1 d s' R1 h2 _ fun v H2 R2 z2 p2 => hq v H2 R2 (z1.trans z2) p2
  · cases h2
    refine sa G W σ H s _ _ R h1 _ fun v H1 R1 z1 p1 => ?_
    cases p1
    refine ⟨false, rfl, ?_⟩
    rw [if_neg Bool.false_ne_true]
    exact hq _ H1 R1 z1 (.bl _)
theorem ve_or {rest : List Expr} (ha : VE X a f1) (hb : VE X (.BoolOp .Or (b :: rest) pos) f2) : VE X (.BoolOp .Or (a :: b :: rest) pos) (eOr f1 f2) := by
  obtain ⟨ta, pa, sa⟩ := ha.ex
  obtain ⟨tb, pb, sb⟩ := hb.ex
  refine ⟨_, pe_or pa pb, ?_⟩
  intro G W σ H s d s' R hf Q hq
  rw [eOr_if] at hf
  obtain ⟨s1, ⟨h1, h2⟩ | ⟨h1, h2⟩⟩ := eIf_some hf
  · cases h2
    refine sa G W σ H s _ _ R h1 _ fun v H1 R1 z1 p1 => ?_
    cases p1
    refine ⟨true, rfl, ?_⟩
    rw [if_pos rfl]
    exact hq _ H1 R1 z1 (.bl _)
  · refine sa G W σ H s _ _ R h1 _ fun v H1 R1 z1 p1 => ?_
    cases p1
    refine ⟨false, rfl, ?_⟩
    rw [if_neg Bool.false_ne_true]
    exact sb G W σ H1 s1 d s' R1 h2 _ fun v H2 R2 z2 p2 => hq v H2 R2 (z1.trans z2) p2
/-- tests of and, or -/
structure VW (X : Cx) (e : Expr) (f : Fe) : Prop where
  ex : ∃ t, PW X e t ∧ SndT (evX X) t f
theorem VW.vt (h : VW X a f) : VT X a f := by
  obtain ⟨t, p, sn⟩ := h.ex
  exact ⟨t, p.pt, sn⟩
theorem vw_and1 (h : VT X a f) : VW X (.BoolOp .And [a] pos) f := by
  obtain ⟨t, p, sn⟩ := h.ex
  exact ⟨_, pw_and1 p, sn⟩
theorem vw_or1 (h : VT X a f) : VW X (.BoolOp .Or [a] pos) f := by
  obtain ⟨t, p, sn⟩ := h.ex
  exact ⟨_, pw_or1 p, sn⟩
theorem vw_and {rest : List Expr} (ha : VT X a f1) (hb : VW X (.BoolOp .And (b :: rest) pos) f2) : VW X (.BoolOp .And (a :: b :: rest) pos) (eAnd f1 f2) := by
  obtain ⟨ta, pa, sa⟩ := ha.ex
  obtain ⟨tb, pb, sb⟩ := hb.ex
  refine ⟨_, pw_and pa pb, ?_⟩
  intro G W σ H s d s' R hf Q hq
  rw [eAnd_if] at hf
  obtain ⟨s1, ⟨h1, h2⟩ | ⟨h1, h2⟩⟩ := eIf_some hf
  · refine sa G W σ H s _ _ R h1 _ fun H1 R1 z1 => ?_
    rw [if_pos rfl]
    exact sb G W σ H1 s1 d s' R1 h2 _ fun H2 R2 z2 => hq H2 R2 (z1.trans z2)
  · cases h2
    refine sa G W σ H s _ _ R h1 _ fun H1 R1 z1 => ?_
    rw [if_neg Bool.false_ne_true]
    exact hq H1 R1 z1
theorem vw_or {rest : List Expr} (ha : VT X a f1) (hb : VW X (.BoolOp .Or (b :: rest) pos) f2) : VW X (.BoolOp .Or (a :: b :: rest) pos) (eOr f1 f2) := by
  obtain ⟨ta, pa, sa⟩ := ha.ex
  obtain ⟨tb, pb, sb⟩ := hb.ex
  refine ⟨_, pw_or pa pb, ?_⟩
  intro G W σ H s d s' R hf Q hq
  rw [eOr_if] at hf
  obtain ⟨s1, ⟨h1, h2⟩ | ⟨h1, h2⟩⟩ := eIf_some hf
  · cases h2
    refine sa G W σ H s _ _ R h1 _ fun H1 R1 z1 => ?_
    rw [if_pos rfl]
    exact hq H1 R1 z1
  · refine sa G W σ H s _ _ R h1 _ fun H1 R1 z1 => ?_
    rw [if_neg Bool.false_ne_true]
    exact sb G W σ H1 s1 d s' R1 h2 _ fun H2 R2 z2 => hq H2 R2 (z1.trans z2)
/-- a value that is True or False, as a test -/
theorem vt_val (h : VE X a f) (he : ∀ whole, isTrue a X.env whole = (do let v ← whole; standAt a.pos; holding [v] (truthy v)) := by intro _; rfl) : VT X a f := by
  obtain ⟨t, p, sn⟩ := h.ex
  exact ⟨_, pt_val p he, snd_tb sn⟩
theorem ve_if (hc : VT X c f) (ha : VE X a f1) (hb : VE X b f2) : VE X (.IfExp c a b pos) (eIf f f1 f2) := by
  obtain ⟨tc, pc, sc⟩ := hc.ex
  obtain ⟨ta, pa, sa⟩ := ha.ex
  obtain ⟨tb, pb, sb⟩ := hb.ex
  refine ⟨_, pe_ifExp pc pa pb, ?_⟩
  intro G W σ H s d s' R hf Q hq
  obtain ⟨s1, ⟨h1, h2⟩ | ⟨h1, h2⟩⟩ := eIf_some hf
  · refine sc G W σ H s _ s1 R h1 _ fun H1 R1 z1 => ?_
    rw [if_pos rfl]
    exact sa G W σ H1 s1 d s' R1 h2 _ fun v H2 R2 z2 p2 => hq v H2 R2 (z1.trans z2) p2
  · refine sc G W σ H s _ s1 R h1 _ fun H1 R1 z1 => ?_
    rw [if_neg Bool.false_ne_true]
    exact sb G W σ H1 s1 d s' R1 h2 _ fun v H2 R2 z2 p2 => hq v H2 R2 (z1.trans z2) p2
/-! ### rows of arguments -/
def aNil : Fa := fun s => some ([], s)
def aCons (f : Fe) (g : Fa) : Fa := fun s => (f s).bind fun (x, s1) => (g s1).map fun (xs, s2) => (x :: xs, s2)
theorem va_nil : VA X [] aNil := ⟨_, pa_nil, fun G W σ H s d s' R hf Q hq => by cases hf; exact hq [] H R Fz.refl .nil⟩
theorem va_cons {es : List Expr} {fa : Fa} (h : VE X a f) (hr : VA X es fa) (hs : starEach (a :: es) X.env = (false, eval a X.env) :: starEach es X.env := by rfl) : VA X (a :: es) (aCons f fa) := by
  obtain ⟨t, p, sn⟩ := h.ex
  obtain ⟨tr, pr, sr⟩ := hr.ex
  refine ⟨_, pa_cons p pr hs, ?_⟩
  intro G W σ H s d s' R hf Q hq
  unfold aCons at hf
  simp only [Option.bind_eq_some_iff, Option.map_eq_some_iff] at hf
  obtain ⟨⟨x, s1⟩, h1, ⟨xs, s2⟩, h2, h3⟩ := hf
  cases h3
  refine sn G W σ H s x s1 R h1 _ fun v H1 R1 z1 p1 => ?_
  exact sr G W σ H1 s1 xs _ R1 h2 _ fun vs H2 R2 z2 p2 => hq _ H2 R2 (z1.trans z2) (.cons (p1.fz z2) p2)
/-! ### tuples and lists -/
def eTup (fa : Fa) : Fe := fun s => (fa s).bind fun (xs, s1) => if xs.length ≤ 100000 then some (.tuple xs, s1) else none
def eLst (fa : Fa) : Fe := fun s => (fa s).bind fun (xs, s1) => if xs.length ≤ 100000 then some (.list xs, s1) else none
theorem line_of {n : Nat} (h : n ≤ 100000) : n ≤ sizeLine := Nat.le_trans h (by decide)
theorem ve_tup {es : List Expr} {fa : Fa} {k : Nat} (h : VA X es fa) : VE X (.Tuple es k pos) (eTup fa) := by
  obtain ⟨t, p, sn⟩ := h.ex
  refine ⟨_, pe_tup p, ?_⟩
  intro G W σ H s d s' R hf Q hq
  unfold eTup at hf
  simp only [Option.bind_eq_some_iff] at hf
  obtain ⟨⟨xs, s1⟩, h1, h2⟩ := hf
  dsimp only at h2
  split at h2
  · rename_i hl
    cases h2
    refine sn G W σ H s xs _ R h1 _ fun vs H1 R1 z1 p1 => ⟨line_of (by rw [p1.length]; exact hl), fun q hn => ?_⟩
    have k : Same H1 (upd H1 q (.tup vs)) := fun b o e => by rw [upd_ne (ne_of_none e hn)]; exact e
    exact hq _ _ (R1.same k) (z1.trans (Fz.of_same k)) (.tup (.inl ⟨R1.free hn, upd_same⟩) (p1.fz (Fz.of_same k)))
  · cases h2
theorem vf_lst {es : List Expr} {fa : Fa} (h : VA X es fa) : VF X (.List es pos) (eLst fa) := by
  obtain ⟨t, p, sn⟩ := h.ex
  refine ⟨_, pe_lst p, ?_⟩
  intro G W σ H s d s' R hf Q hq
  unfold eLst at hf
  simp only [Option.bind_eq_some_iff] at hf
  obtain ⟨⟨xs, s1⟩, h1, h2⟩ := hf
  dsimp only at h2
  split at h2
  · rename_i hl
    cases h2
    refine sn G W σ H s xs _ R h1 _ fun vs H1 R1 z1 p1 => ⟨line_of (by rw [p1.length]; exact hl), fun q hn => ?_⟩
    exact hq q _ (none_back R z1 R1.there hn) (R1.laid hn) (z1.laid' hn) (new_list hn p1)
  · cases h2
end
end Fx
-- Fx3
namespace Fx
open PySem PySem.Spec L2

section
variable {E : Ev} {A : Addr → Prop} {H : Hp}
mutual
theorem Rep.dp : ∀ {v : V} {d : D}, Rep E A H v d → d.canLay0 = true → Dp E.K H v d
  | _, _, .non, _ => .non
  | _, _, .bl b, _ => .bl b
  | _, _, .int i, _ => .int i
  | _, _, .str x, _ => .str x
  | _, _, .tup e r, h => .tup e.sqt (Reps.dp r (by simpa [PyData.canLay0] using h))
  | _, _, .lst _ e r, h => .lst (SqL.of e) (Reps.dp r (by simpa [PyData.canLay0] using h))
  | _, _, .dt .., h => by simp [PyData.canLay0] at h
  | _, _, .dk .., h => by simp [PyData.canLay0] at h
  | _, _, .dx .., h => by simp [PyData.canLay0] at h
theorem Reps.dp : ∀ {v : List V} {d : List D}, Reps E A H v d → PyData.canLayAll0 d = true → DpAll E.K H v d
  | _, _, .nil, _ => .nil
  | _, _, .cons r t, h => by
    simp only [PyData.canLayAll0, Bool.and_eq_true] at h
    exact .cons (Rep.dp r h.1) (Reps.dp t h.2)
end
theorem shaped_lay {d : D} (h : SeqAt.shaped d = true) : d.canLay0 = true := by
  unfold SeqAt.shaped at h
  simp only [Bool.and_eq_true] at h
  exact h.1
end

/-! ### numbers -/
def intD (g : Int → Int → Option D) : D → D → Option D
  | .int a, .int b => g a b
  | _, _ => none
section
variable {E : Ev}
theorem sr_I0 {h : Int → Int → V} {g : Int → Int → Option D} (e : ∀ i j d, g i j = some d → ∀ A H, Rep E A H (h i j) d) : SndRS E (rI0 h) (intD g) := by
  intro A H x y dx dy dz rx ry he Q hq
  cases rx <;> cases ry <;> simp only [intD] at he
  all_goals first | (cases he; done) | skip
  exact ⟨_, _, rfl, rfl, hq _ fun B H' => e _ _ _ he B H'⟩
theorem sr_I {C : Int → Int → Prop} {h : Int → Int → V} {g : Int → Int → Option D} (e : ∀ i j d, g i j = some d → C i j ∧ ∀ A H, Rep E A H (h i j) d) : SndRS E (rI C h) (intD g) := by
  intro A H x y dx dy dz rx ry he Q hq
  cases rx <;> cases ry <;> simp only [intD] at he
  all_goals first | (cases he; done) | skip
  obtain ⟨hc, hr⟩ := e _ _ _ he
  exact ⟨_, _, rfl, rfl, hc, hq _ fun B H' => hr B H'⟩
def subD : D → D → Option D := intD fun a b => some (.int (a - b))
def mulD : D → D → Option D := intD fun a b => if (-(2 ^ 64) < a ∧ a < 2 ^ 64) ∨ (-(2 ^ 64) < b ∧ b < 2 ^ 64) then some (.int (a * b)) else none
def divD : D → D → Option D := intD fun a b => if 0 < b ∧ b < 1073741824 then some (.int (a / b)) else none
def modD : D → D → Option D := intD fun a b => if 0 < b then some (.int (a % b)) else none
def powD : D → D → Option D := intD fun a b => if 0 ≤ b ∧ b ≤ 1000000 ∧ a.natAbs < 2 ^ 64 then some (.int (a ^ b.toNat)) else none
def ltD : D → D → Option D := intD fun a b => some (.bool (decide (a < b)))
def leD : D → D → Option D := intD fun a b => some (.bool (decide (a ≤ b)))
def gtD : D → D → Option D := intD fun a b => some (.bool (decide (b < a)))
def geD : D → D → Option D := intD fun a b => some (.bool (decide (b ≤ a)))
theorem sr_sub : SndRS E (rI0 fun i j => .int (i - j)) subD := sr_I0 fun i j d e A H => by cases e; exact .int _
theorem sr_lt : SndRS E (rI0 fun i j => .bl (decide (i < j))) ltD := sr_I0 fun i j d e A H => by cases e; exact .bl _
theorem sr_le : SndRS E (rI0 fun i j => .bl (decide (i ≤ j))) leD := sr_I0 fun i j d e A H => by cases e; exact .bl _
theorem sr_gt : SndRS E (rI0 fun i j => .bl (decide (j < i))) gtD := sr_I0 fun i j d e A H => by cases e; exact .bl _
theorem sr_ge : SndRS E (rI0 fun i j => .bl (decide (j ≤ i))) geD := sr_I0 fun i j d e A H => by cases e; exact .bl _
theorem sr_mul : SndRS E (rI CMul fun i j => .int (i * j)) mulD := sr_I fun i j d e => by
  split at e
  · rename_i h; cases e; exact ⟨h, fun _ _ => .int _⟩
  · cases e
theorem sr_div : SndRS E (rI CDiv fun i j => .int (i / j)) divD := sr_I fun i j d e => by
  split at e
  · rename_i h; cases e; exact ⟨h, fun _ _ => .int _⟩
  · cases e
theorem sr_mod : SndRS E (rI (fun _ j => 0 < j) fun i j => .int (i % j)) modD := sr_I fun i j d e => by
  split at e
  · rename_i h; cases e; exact ⟨h, fun _ _ => .int _⟩
  · cases e
theorem sr_pow : SndRS E (rI CPow fun i j => .int (i ^ j.toNat)) powD := sr_I fun i j d e => by
  split at e
  · rename_i h; cases e; exact ⟨h, fun _ _ => .int _⟩
  · cases e
def negD : D → Option D
  | .int a => some (.int (-a))
  | _ => none
end
section
variable {X : Cx} {a b c : Expr} {f f1 f2 f3 : Fe} {pos : Pos}
theorem ve_sub (ha : VE X a f1) (hb : VE X b f2) : VE X (.BinOp a .Sub b pos) (eBin subD f1 f2) := ve_op op_sub sr_sub.r ha hb
theorem ve_mul (ha : VE X a f1) (hb : VE X b f2) : VE X (.BinOp a .Mult b pos) (eBin mulD f1 f2) := ve_op op_mul sr_mul.r ha hb
theorem ve_div (ha : VE X a f1) (hb : VE X b f2) : VE X (.BinOp a .FloorDiv b pos) (eBin divD f1 f2) := ve_op op_fdiv sr_div.r ha hb
theorem ve_mod (ha : VE X a f1) (hb : VE X b f2) : VE X (.BinOp a .Mod b pos) (eBin modD f1 f2) := ve_op op_mod sr_mod.r ha hb
theorem ve_pow (ha : VE X a f1) (hb : VE X b f2) : VE X (.BinOp a .Pow b pos) (eBin powD f1 f2) := ve_op op_pow sr_pow.r ha hb
theorem ve_lt (ha : VE X a f1) (hb : VE X b f2) : VE X (.Compare a [.Lt] [b] pos) (eBin ltD f1 f2) := ve_cmp op_lt sr_lt.r ha hb
theorem ve_le (ha : VE X a f1) (hb : VE X b f2) : VE X (.Compare a [.LtE] [b] pos) (eBin leD f1 f2) := ve_cmp op_le sr_le.r ha hb
theorem ve_gt (ha : VE X a f1) (hb : VE X b f2) : VE X (.Compare a [.Gt] [b] pos) (eBin gtD f1 f2) := ve_cmp op_gt sr_gt.r ha hb
theorem ve_ge (ha : VE X a f1) (hb : VE X b f2) : VE X (.Compare a [.GtE] [b] pos) (eBin geD f1 f2) := ve_cmp op_ge sr_ge.r ha hb
theorem vt_lt (ha : VE X a f1) (hb : VE X b f2) : VT X (.Compare a [.Lt] [b] pos) (eBin ltD f1 f2) := vt_cmp op_lt sr_lt.r ha hb
theorem vt_le (ha : VE X a f1) (hb : VE X b f2) : VT X (.Compare a [.LtE] [b] pos) (eBin leD f1 f2) := vt_cmp op_le sr_le.r ha hb
theorem vt_gt (ha : VE X a f1) (hb : VE X b f2) : VT X (.Compare a [.Gt] [b] pos) (eBin gtD f1 f2) := vt_cmp op_gt sr_gt.r ha hb
theorem vt_ge (ha : VE X a f1) (hb : VE X b f2) : VT X (.Compare a [.GtE] [b] pos) (eBin geD f1 f2) := vt_cmp op_ge sr_ge.r ha hb
theorem ve_neg (ha : VE X a f1) : VE X (.UnaryOp .USub a pos) (eUn negD f1) := ve_un un_neg (fun A H x dx dz rx e Q hq => by
  cases rx <;> cases e
  exact ⟨_, rfl, hq _ fun _ _ => .int _⟩) ha
end

/-! ### + of numbers, tuples, texts, lists -/
def addD : D → D → Option D
  | .int a, .int b => some (.int (a + b))
  | .tuple xs, .tuple ys => if xs.length + ys.length ≤ 100000 then some (.tuple (xs ++ ys)) else none
  | .str x, .str y => if x.length + y.length ≤ 100000 then some (.str (x ++ y)) else none
  | _, _ => none
def catD : D → D → Option D
  | .list xs, .list ys => if xs.length + ys.length ≤ 100000 then some (.list (xs ++ ys)) else none
  | _, _ => none
section
variable {X : Cx} {a b c : Expr} {f f1 f2 f3 : Fe} {pos : Pos}
theorem same_new {H : Hp} {p : Addr} {o : HO} (h : H p = none) : Same H (upd H p o) := fun b x e => by rw [upd_ne (ne_of_none e h)]; exact e
theorem ve_add (ha : VE X a f1) (hb : VE X b f2) : VE X (.BinOp a .Add b pos) (eBin addD f1 f2) := by
  refine ve_op ((op_add.or op_catA).or op_add_str) ?_ ha hb
  intro A H fre x y dx dy dz rx ry e Q hq
  cases rx <;> cases ry <;> simp only [addD] at e
  all_goals first | (cases e; done) | skip
  · cases e
    exact .inl (.inl ⟨_, _, rfl, rfl, hq _ H (Same.refl H) (.int _)⟩)
  · split at e
    · rename_i hl
      cases e
      exact .inr ⟨_, _, rfl, rfl, line_of hl, hq _ H (Same.refl H) (.str _)⟩
    · cases e
  · rename_i p xs ds e1 r1 q ys es e2 r2
    split at e
    · rename_i hl
      cases e
      refine .inl (.inr ⟨p, q, xs, ys, rfl, rfl, e1.sqt, e2.sqt, line_of (by rw [r1.length, r2.length]; exact hl), fun h => ?_, fun h h' => ?_, fun h h' p' hn => ?_⟩)
      · subst h
        cases r1
        exact hq _ H (Same.refl H) (.tup e2 r2)
      · subst h'
        cases r2
        exact hq _ H (Same.refl H) (by rw [List.append_nil]; exact .tup e1 r1)
      · exact hq _ _ (same_new hn) (.tup (.inl ⟨fre.no hn, upd_same⟩) ((r1.append r2).fz (Fz.of_same (same_new hn))))
    · cases e
theorem vf_cat (ha : VE X a f1) (hb : VE X b f2) : VF X (.BinOp a .Add b pos) (eBin catD f1 f2) := by
  refine vf_op op_cat ?_ ha hb
  intro A H x y dx dy dz rx ry e Q hq
  cases rx <;> cases ry <;> simp only [catD] at e
  all_goals first | (cases e; done) | skip
  rename_i p xs ds n1 e1 r1 q ys es n2 e2 r2
  split at e
  · rename_i hl
    cases e
    exact ⟨p, q, xs, ys, rfl, rfl, e1, e2, line_of (by rw [r1.length, r2.length]; exact hl), fun p' hn => hq p' _ _ hn rfl (r1.append r2)⟩
  · cases e
/-- xs * k of a list, a tuple -/
def repD : D → D → Option D
  | .list xs, .int k => if 0 ≤ k ∧ k ≤ 1000 ∧ xs.length ≤ 1000 then some (.list (List.replicate k.toNat xs).flatten) else none
  | _, _ => none
def repT : D → D → Option D
  | .tuple xs, .int k => if xs ≠ [] ∧ 2 ≤ k ∧ k ≤ 1000 ∧ xs.length ≤ 1000 then some (.tuple (List.replicate k.toNat xs).flatten) else none
  | _, _ => none
theorem Reps.rep {E : Ev} {A : Addr → Prop} {H : Hp} {xs : List V} {ds : List D} (r : Reps E A H xs ds) : ∀ k : Nat, Reps E A H (List.replicate k xs).flatten (List.replicate k ds).flatten
  | 0 => .nil
  | k + 1 => by
    rw [List.replicate_succ, List.replicate_succ, List.flatten_cons, List.flatten_cons]
    exact r.append (Reps.rep r k)
theorem vf_rep (ha : VE X a f1) (hb : VE X b f2) : VF X (.BinOp a .Mult b pos) (eBin repD f1 f2) := by
  refine vf_op op_rep ?_ ha hb
  intro A H x y dx dy dz rx ry e Q hq
  cases rx <;> cases ry <;> simp only [repD] at e
  all_goals first | (cases e; done) | skip
  rename_i p xs ds n1 e1 r1 k
  split at e
  · rename_i hl
    cases e
    refine ⟨p, k, xs, rfl, rfl, e1, by omega, by omega, ?_, fun p' hn => hq p' _ _ hn rfl (r1.rep _)⟩
    have h1 : xs.length ≤ 1000 := by rw [r1.length]; exact hl.2.2
    have h2 : k.toNat ≤ 1000 := by omega
    exact Nat.le_trans (Nat.mul_le_mul h1 h2) (by decide)
  · cases e
theorem ve_repT (ha : VE X a f1) (hb : VE X b f2) : VE X (.BinOp a .Mult b pos) (eBin repT f1 f2) := by
  refine ve_op op_repT ?_ ha hb
  intro A H fre x y dx dy dz rx ry e Q hq
  cases rx <;> cases ry <;> simp only [repT] at e
  all_goals first | (cases e; done) | skip
  rename_i p xs ds e1 r1 k
  split at e
  · rename_i hl
    cases e
    refine ⟨p, k, xs, rfl, rfl, e1.sqt, ?_, hl.2.1, hl.2.2.1, ?_, fun p' hn => hq _ _ (same_new hn) (.tup (.inl ⟨fre.no hn, upd_same⟩) ((r1.rep _).fz (Fz.of_same (same_new hn))))⟩
    · intro z
      subst z
      cases r1
      exact hl.1 rfl
    · rw [r1.length]; exact hl.2.2.2
  · cases e
/-! ### == and its kin -/
def eqD (d e : D) : Option D := if SeqAt.shaped d = true ∧ SeqAt.shaped e = true then some (.bool (PyData.eqv d e)) else none
def neD (d e : D) : Option D := if SeqAt.shaped d = true ∧ SeqAt.shaped e = true then some (.bool (!PyData.eqv d e)) else none
theorem sr_eq {E : Ev} : SndRS E (rEqD E.K) eqD := by
  intro A H x y dx dy dz rx ry e Q hq
  unfold eqD at e
  split at e
  · rename_i h
    cases e
    exact ⟨dx, dy, rx.dp (shaped_lay h.1), ry.dp (shaped_lay h.2), h.1, h.2, hq _ fun _ _ => .bl _⟩
  · cases e
theorem sr_ne {E : Ev} : SndRS E (rNeD E.K) neD := by
  intro A H x y dx dy dz rx ry e Q hq
  unfold neD at e
  split at e
  · rename_i h
    cases e
    exact ⟨dx, dy, rx.dp (shaped_lay h.1), ry.dp (shaped_lay h.2), h.1, h.2, hq _ fun _ _ => .bl _⟩
  · cases e
theorem ve_eq (hu : X.A.units + 64 < cLine) (ha : VE X a f1) (hb : VE X b f2) : VE X (.Compare a [.Eq] [b] pos) (eBin eqD f1 f2) := ve_cmp (op_eqD hu) sr_eq.r ha hb
theorem ve_ne (hu : X.A.units + 64 < cLine) (ha : VE X a f1) (hb : VE X b f2) : VE X (.Compare a [.NotEq] [b] pos) (eBin neD f1 f2) := ve_cmp (op_neD hu) sr_ne.r ha hb
theorem vt_eq (hu : X.A.units + 64 < cLine) (ha : VE X a f1) (hb : VE X b f2) : VT X (.Compare a [.Eq] [b] pos) (eBin eqD f1 f2) := vt_cmp (op_eqD hu) sr_eq.r ha hb
theorem vt_ne (hu : X.A.units + 64 < cLine) (ha : VE X a f1) (hb : VE X b f2) : VT X (.Compare a [.NotEq] [b] pos) (eBin neD f1 f2) := vt_cmp (op_neD hu) sr_ne.r ha hb
/-- is None, is not None; is True, is not True .. -/
def isND : D → D → Option D
  | d, .none => some (.bool (match d with | .none => true | _ => false))
  | .bool a, .bool b => some (.bool (decide (a = b)))
  | _, _ => none
def isntD : D → D → Option D
  | d, .none => some (.bool (match d with | .none => false | _ => true))
  | .bool a, .bool b => some (.bool (!decide (a = b)))
  | _, _ => none
theorem sr_is {E : Ev} : SndRS E (fun x y H Q => (y = .non ∧ Q (.bl (decide (x = .non))) H) ∨ rIsB x y H Q) isND := by
  intro A H x y dx dy dz rx ry e Q hq
  cases ry with
  | non =>
    refine .inl ⟨rfl, ?_⟩
    cases rx <;> simp only [isND] at e <;> cases e <;> exact hq _ fun _ _ => .bl _
  | bl b =>
    cases rx <;> simp only [isND] at e
    all_goals first | (cases e; done) | skip
    cases e
    exact .inr ⟨_, _, rfl, rfl, hq _ fun _ _ => .bl _⟩
  | _ => cases rx <;> simp [isND] at e
theorem sr_isnt {E : Ev} : SndRS E (fun x y H Q => (y = .non ∧ Q (.bl (!decide (x = .non))) H) ∨ rNotB x y H Q) isntD := by
  intro A H x y dx dy dz rx ry e Q hq
  cases ry with
  | non =>
    refine .inl ⟨rfl, ?_⟩
    cases rx <;> simp only [isntD] at e <;> cases e <;> exact hq _ fun _ _ => .bl _
  | bl b =>
    cases rx <;> simp only [isntD] at e
    all_goals first | (cases e; done) | skip
    cases e
    exact .inr ⟨_, _, rfl, rfl, hq _ fun _ _ => .bl _⟩
  | _ => cases rx <;> simp [isntD] at e
theorem ve_is (ha : VE X a f1) (hb : VE X b f2) : VE X (.Compare a [.Is] [b] pos) (eBin isND f1 f2) := ve_cmp (op_isN.or op_isBl) sr_is.r ha hb
theorem ve_isnt (ha : VE X a f1) (hb : VE X b f2) : VE X (.Compare a [.IsNot] [b] pos) (eBin isntD f1 f2) := ve_cmp (op_notN.or op_notBl) sr_isnt.r ha hb
theorem vt_is (ha : VE X a f1) (hb : VE X b f2) : VT X (.Compare a [.Is] [b] pos) (eBin isND f1 f2) := vt_cmp (op_isN.or op_isBl) sr_is.r ha hb
theorem vt_isnt (ha : VE X a f1) (hb : VE X b f2) : VT X (.Compare a [.IsNot] [b] pos) (eBin isntD f1 f2) := vt_cmp (op_notN.or op_notBl) sr_isnt.r ha hb
/-! ### xs[i] -/
def ixD : D → D → Option D
  | .list xs, .int i => atI xs i
  | .tuple xs, .int i => atI xs i
  | .str z, .int i => if z.length ≤ 100000 then (atI z.cps.toList i).map fun c => .str ⟨#[c]⟩ else none
  | _, _ => none
theorem Reps.atI {E : Ev} {A : Addr → Prop} {H : Hp} {xs : List V} {ds : List D} {i : Int} {d : D} (r : Reps E A H xs ds) (h : L2.atI ds i = some d) : ∃ v, L2.atI xs i = some v ∧ Rep E A H v d := by
  unfold L2.atI at h ⊢
  rw [r.length]
  cases e : ixN ds.length i with
  | none => rw [e] at h; cases h
  | some j => rw [e] at h; exact r.get h
theorem sr_ix {E : Ev} : SndR E (rIx E.K) ixD := by
  intro A H fre x y dx dy dz rx ry e Q hq
  cases rx <;> cases ry <;> simp only [ixD] at e
  all_goals first | (cases e; done) | skip
  · split at e
    · rename_i hl
      simp only [Option.map_eq_some_iff] at e
      obtain ⟨c, e1, rfl⟩ := e
      exact .inr (.inr ⟨_, _, c, rfl, rfl, line_of hl, e1, hq _ H (Same.refl H) (.str _)⟩)
    · cases e
  · rename_i p xs ds e1 r1 k
    obtain ⟨v, h1, h2⟩ := r1.atI e
    exact .inr (.inl ⟨p, xs, k, v, rfl, rfl, e1.sqt, h1, hq v H (Same.refl H) h2⟩)
  · rename_i p xs ds n1 e1 r1 k
    obtain ⟨v, h1, h2⟩ := r1.atI e
    exact .inl ⟨p, xs, k, v, rfl, rfl, SqL.of e1, h1, hq v H (Same.refl H) h2⟩
theorem ve_ix (ha : VE X a f1) (hb : VE X b f2) (hs : PlainIx b := by exact fun _ _ => rfl) : VE X (.Subscript a b pos) (eBin ixD f1 f2) := by
  obtain ⟨ta, pa, sa⟩ := ha.ex
  obtain ⟨tb, pb, sb⟩ := hb.ex
  exact ⟨_, pe_ix ix_seq pa pb hs, snd_op sa sb sr_ix⟩
end
end Fx
-- Fx4
namespace Fx
open PySem PySem.Spec L2

/-! ### calls of built-ins -/
/-- no star among the arguments -/
structure NS (X : Cx) (e : Expr) (es : List Expr) (pos : Pos) : Prop where
  he : starEach (e :: es) X.env = (false, eval e X.env) :: starEach es X.env
  hpl : ((backTo pos (starEach es X.env)).any (·.1)) = false
def SndC (E : Ev) (r : List V → Hp → VK → Prop) (g : List D → Option D) : Prop := ∀ A H, Fre A H → ∀ xs ds d, Reps E A H xs ds → g ds = some d → ∀ Q : VK,
  (∀ z H', Same H H' → Rep E A H' z d → Q z H') → r xs H Q
def SndCS (E : Ev) (r : List V → Hp → VK → Prop) (g : List D → Option D) : Prop := ∀ A H xs ds d, Reps E A H xs ds → g ds = some d → ∀ Q : VK,
  (∀ z, (∀ B H', Rep E B H' z d) → Q z H) → r xs H Q
def SndCF (E : Ev) (r : List V → Hp → VK → Prop) (g : List D → Option D) : Prop := ∀ A H xs ds d, Reps E A H xs ds → g ds = some d → ∀ Q : VK,
  (∀ p ys es, H p = none → d = .list es → Reps E A H ys es → Q (.ref p) (upd H p (.lst ys))) → r xs H Q
theorem SndCS.c {E : Ev} {r : List V → Hp → VK → Prop} {g : List D → Option D} (h : SndCS E r g) : SndC E r g := fun A H _ xs ds d rx e Q hq => h A H xs ds d rx e Q fun z hz => hq z H (Same.refl H) (hz A H)
def eCall (g : List D → Option D) (fa : Fa) : Fe := fun s => (fa s).bind fun (xs, s1) => (g xs).map fun z => (z, s1)
theorem eCall_some {g : List D → Option D} {fa : Fa} {s s' : S} {d : D} (h : eCall g fa s = some (d, s')) : ∃ xs, fa s = some (xs, s') ∧ g xs = some d := by
  unfold eCall at h
  simp only [Option.bind_eq_some_iff, Option.map_eq_some_iff] at h
  obtain ⟨⟨x, s1⟩, h1, z, h3, h4⟩ := h
  cases h4
  exact ⟨x, h1, h3⟩
section
variable {E : Ev} {ta : TA} {fa : Fa} {r : List V → Hp → VK → Prop} {g : List D → Option D}
theorem snd_cb (ha : SndA E ta fa) (hr : SndC E r g) : SndE E (tCB r ta) (eCall g fa) := by
  intro G W σ H s d s' R hf Q hq
  obtain ⟨xs, h1, h2⟩ := eCall_some hf
  refine ha G W σ H s xs s' R h1 _ fun vs H1 R1 z1 p1 => ?_
  exact hr _ H1 R1.fre vs xs d p1 h2 _ fun z H2 sm p2 => hq z H2 (R1.same sm) (z1.trans (Fz.of_same sm)) p2
theorem snd_cbF (ha : SndA E ta fa) (hr : SndCF E r g) : SndF E (tCB r ta) (eCall g fa) := by
  intro G W σ H s d s' R hf Q hq
  obtain ⟨xs, h1, h2⟩ := eCall_some hf
  refine ha G W σ H s xs s' R h1 _ fun vs H1 R1 z1 p1 => ?_
  refine hr _ H1 vs xs d p1 h2 _ fun p ys es hn e rs => ?_
  subst e
  exact hq p _ (none_back R z1 R1.there hn) (R1.laid hn) (z1.laid' hn) (new_list hn rs)
end
section
variable {X : Cx} {x : Str} {p pos : Pos} {e : Expr} {es : List Expr} {id T : String} {fa : Fa} {r : List V → Hp → VK → Prop} {g : List D → Option D}
theorem ve_callB (hc : CallR X (.builtin id) r) (hr : SndC (evX X) r g) (hg : Gl X x) (hm : X.mg x = none) (hv : bootBuiltins x = some (.builtin id)) (ha : VA X (e :: es) fa) (hn : x ≠ "__name__" := by decide) (hdb : (x == ("__debug__" : Str)) = false := by decide) (ns : NS X e es pos := by exact ⟨rfl, rfl⟩) :
    VE X (.Call (.Name x p) (e :: es) [] pos) (eCall g fa) := by
  obtain ⟨ta, pa, sa⟩ := ha.ex
  exact ⟨_, pe_callB hc hg hm hv pa hn hdb ns.he ns.hpl, snd_cb sa hr⟩
theorem vf_callB (hc : CallR X (.builtin id) r) (hr : SndCF (evX X) r g) (hg : Gl X x) (hm : X.mg x = none) (hv : bootBuiltins x = some (.builtin id)) (ha : VA X (e :: es) fa) (hn : x ≠ "__name__" := by decide) (hdb : (x == ("__debug__" : Str)) = false := by decide) (ns : NS X e es pos := by exact ⟨rfl, rfl⟩) :
    VF X (.Call (.Name x p) (e :: es) [] pos) (eCall g fa) := by
  obtain ⟨ta, pa, sa⟩ := ha.ex
  exact ⟨_, pe_callB hc hg hm hv pa hn hdb ns.he ns.hpl, snd_cbF sa hr⟩
theorem ve_callTy (hc : CallR X (.type T) r) (hr : SndC (evX X) r g) (hg : Gl X x) (hm : X.mg x = none) (hv : bootBuiltins x = some (.type T)) (ha : VA X (e :: es) fa) (hn : x ≠ "__name__" := by decide) (hdb : (x == ("__debug__" : Str)) = false := by decide) (ns : NS X e es pos := by exact ⟨rfl, rfl⟩) :
    VE X (.Call (.Name x p) (e :: es) [] pos) (eCall g fa) := by
  obtain ⟨ta, pa, sa⟩ := ha.ex
  exact ⟨_, pe_callTy hc hg hm hv pa hn hdb ns.he ns.hpl, snd_cb sa hr⟩
theorem vf_callTy (hc : CallR X (.type T) r) (hr : SndCF (evX X) r g) (hg : Gl X x) (hm : X.mg x = none) (hv : bootBuiltins x = some (.type T)) (ha : VA X (e :: es) fa) (hn : x ≠ "__name__" := by decide) (hdb : (x == ("__debug__" : Str)) = false := by decide) (ns : NS X e es pos := by exact ⟨rfl, rfl⟩) :
    VF X (.Call (.Name x p) (e :: es) [] pos) (eCall g fa) := by
  obtain ⟨ta, pa, sa⟩ := ha.ex
  exact ⟨_, pe_callTy hc hg hm hv pa hn hdb ns.he ns.hpl, snd_cbF sa hr⟩
end
/-! ### len, abs, min, max, sum, all, any -/
def lenD : List D → Option D
  | [.list xs] => some (.int xs.length)
  | [.tuple xs] => some (.int xs.length)
  | [.str z] => if z.length ≤ 100000 then some (.int z.length) else none
  | _ => none
def absD : List D → Option D
  | [.int i] => some (.int (if i < 0 then -i else i))
  | _ => none
def intsD : List D → Option (List Int)
  | [] => some []
  | .int i :: r => (intsD r).map (i :: ·)
  | _ :: _ => none
def blsD : List D → Option (List Bool)
  | [] => some []
  | .bool i :: r => (blsD r).map (i :: ·)
  | _ :: _ => none
def maxI : List Int → Int
  | [] => 0
  | x :: r => r.foldl (fun a b => if b > a then b else a) x
def minI : List Int → Int
  | [] => 0
  | x :: r => r.foldl (fun a b => if b < a then b else a) x
def max2D : List D → Option D
  | [.int i, .int j] => some (.int (if j > i then j else i))
  | _ => none
def min2D : List D → Option D
  | [.int i, .int j] => some (.int (if j < i then j else i))
  | _ => none
def maxLD : List D → Option D
  | [.list xs] => (intsD xs).bind fun ns => if ns = [] then none else some (.int (maxI ns))
  | _ => none
def minLD : List D → Option D
  | [.list xs] => (intsD xs).bind fun ns => if ns = [] then none else some (.int (minI ns))
  | _ => none
def sumD : List D → Option D
  | [.list xs] => (intsD xs).map fun ns => .int ns.sum
  | _ => none
def allD : List D → Option D
  | [.list xs] => (blsD xs).map fun bs => .bool (bs.all id)
  | _ => none
def anyD : List D → Option D
  | [.list xs] => (blsD xs).map fun bs => .bool (bs.any id)
  | _ => none
section
variable {E : Ev} {A : Addr → Prop} {H : Hp}
theorem intsD_eq : ∀ {ds : List D} {ns : List Int}, intsD ds = some ns → ds = ns.map .int
  | [], ns, h => by cases h; rfl
  | d :: r, ns, h => by
    cases d <;> simp only [intsD] at h
    all_goals first | (cases h; done) | skip
    simp only [Option.map_eq_some_iff] at h
    obtain ⟨ms, h1, rfl⟩ := h
    rw [intsD_eq h1]; rfl
theorem blsD_eq : ∀ {ds : List D} {ns : List Bool}, blsD ds = some ns → ds = ns.map .bool
  | [], ns, h => by cases h; rfl
  | d :: r, ns, h => by
    cases d <;> simp only [blsD] at h
    all_goals first | (cases h; done) | skip
    simp only [Option.map_eq_some_iff] at h
    obtain ⟨ms, h1, rfl⟩ := h
    rw [blsD_eq h1]; rfl
theorem Reps.ints : ∀ {xs : List V} {ns : List Int}, Reps E A H xs (ns.map .int) → xs = ns.map .int
  | [], [], _ => rfl
  | [], _ :: _, h => by cases h
  | _ :: _, [], h => by cases h
  | x :: xs, n :: ns, h => by
    cases h with
    | cons a b => cases a; rw [Reps.ints b]; rfl
theorem Reps.bls : ∀ {xs : List V} {ns : List Bool}, Reps E A H xs (ns.map .bool) → xs = ns.map .bl
  | [], [], _ => rfl
  | [], _ :: _, h => by cases h
  | _ :: _, [], h => by cases h
  | x :: xs, n :: ns, h => by
    cases h with
    | cons a b => cases a; rw [Reps.bls b]; rfl
theorem foldl_max (l : List Int) : ∀ x, (l.foldl (fun a b => if b > a then b else a) x) ∈ x :: l ∧ ∀ y ∈ x :: l, y ≤ l.foldl (fun a b => if b > a then b else a) x := by
  induction l with
  | nil => intro x; simp
  | cons b l ih =>
    intro x
    obtain ⟨h1, h2⟩ := ih (if b > x then b else x)
    rw [List.foldl_cons]
    refine ⟨?_, fun y hy => ?_⟩
    · rcases List.mem_cons.mp h1 with h | h
      · rw [h]; split <;> simp
      · simp [h]
    · have h3 := h2 (if b > x then b else x) List.mem_cons_self
      rcases List.mem_cons.mp hy with rfl | hy
      · exact Int.le_trans (by split <;> omega) h3
      · rcases List.mem_cons.mp hy with rfl | hy
        · exact Int.le_trans (by split <;> omega) h3
        · exact h2 y (List.mem_cons_of_mem _ hy)
theorem foldl_min (l : List Int) : ∀ x, (l.foldl (fun a b => if b < a then b else a) x) ∈ x :: l ∧ ∀ y ∈ x :: l, l.foldl (fun a b => if b < a then b else a) x ≤ y := by
  induction l with
  | nil => intro x; simp
  | cons b l ih =>
    intro x
    obtain ⟨h1, h2⟩ := ih (if b < x then b else x)
    rw [List.foldl_cons]
    refine ⟨?_, fun y hy => ?_⟩
    · rcases List.mem_cons.mp h1 with h | h
      · rw [h]; split <;> simp
      · simp [h]
    · have h3 := h2 (if b < x then b else x) List.mem_cons_self
      rcases List.mem_cons.mp hy with rfl | hy
      · exact Int.le_trans h3 (by split <;> omega)
      · rcases List.mem_cons.mp hy with rfl | hy
        · exact Int.le_trans h3 (by split <;> omega)
        · exact h2 y (List.mem_cons_of_mem _ hy)
theorem maxI_is {ns : List Int} (h : ns ≠ []) : maxI ns ∈ ns ∧ ∀ y ∈ ns, y ≤ maxI ns := by
  cases ns with
  | nil => exact absurd rfl h
  | cons x r => exact foldl_max r x
theorem minI_is {ns : List Int} (h : ns ≠ []) : minI ns ∈ ns ∧ ∀ y ∈ ns, minI ns ≤ y := by
  cases ns with
  | nil => exact absurd rfl h
  | cons x r => exact foldl_min r x
end
section
variable {X : Cx} {x : Str} {p pos : Pos} {e : Expr} {es : List Expr} {fa : Fa}
theorem ve_len (hg : Gl X "len") (hm : X.mg "len" = none) (ha : VA X (e :: es) fa) (ns : NS X e es pos := by exact ⟨rfl, rfl⟩) : VE X (.Call (.Name "len" p) (e :: es) [] pos) (eCall lenD fa) := by
  refine ve_callB (call_len_seq.or call_len_str) (SndCS.c ?_) hg hm PySem.boot_len ha (ns := ns)
  intro A H xs ds d rx e Q hq
  cases rx with
  | nil => cases e
  | cons r1 t =>
    cases t with
    | cons _ _ => cases r1 <;> simp [lenD] at e
    | nil =>
      cases r1 <;> simp only [lenD] at e
      all_goals first | (cases e; done) | skip
      · split at e
        · rename_i hl; cases e
          exact .inr ⟨_, rfl, line_of hl, hq _ fun _ _ => .int _⟩
        · cases e
      · rename_i a vs ds e1 r1
        cases e
        exact .inl ⟨a, vs, rfl, .inr e1.sqt, by rw [r1.length]; exact hq _ fun _ _ => .int _⟩
      · rename_i a vs ds n1 e1 r1
        cases e
        exact .inl ⟨a, vs, rfl, .inl (SqL.of e1), by rw [r1.length]; exact hq _ fun _ _ => .int _⟩
theorem ve_abs (hg : Gl X "abs") (hm : X.mg "abs" = none) (ha : VA X (e :: es) fa) (hv : bootBuiltins "abs" = some (.builtin "abs") := by decide +kernel) (ns : NS X e es pos := by exact ⟨rfl, rfl⟩) : VE X (.Call (.Name "abs" p) (e :: es) [] pos) (eCall absD fa) := by
  refine ve_callB call_abs (SndCS.c ?_) hg hm hv ha (ns := ns)
  intro A H xs ds d rx e Q hq
  cases rx with
  | nil => cases e
  | cons r1 t =>
    cases t with
    | cons _ _ => cases r1 <;> simp [absD] at e
    | nil =>
      cases r1 <;> simp only [absD] at e
      all_goals first | (cases e; done) | skip
      cases e
      exact ⟨_, rfl, hq _ fun _ _ => .int _⟩
theorem two_of {E : Ev} {A : Addr → Prop} {H : Hp} {xs : List V} {i j : Int} (r : Reps E A H xs [.int i, .int j]) : xs = [.int i, .int j] := by
  cases r with
  | cons a b => cases b with | cons c d => cases d; cases a; cases c; rfl
theorem ve_max2 (hc : X.calm = true) (hg : Gl X "max") (hm : X.mg "max" = none) (ha : VA X (e :: es) fa) (hv : bootBuiltins "max" = some (.builtin "max") := by decide +kernel) (ns : NS X e es pos := by exact ⟨rfl, rfl⟩) : VE X (.Call (.Name "max" p) (e :: es) [] pos) (eCall max2D fa) := by
  refine ve_callB (call_max2 hc) (SndCS.c ?_) hg hm hv ha (ns := ns)
  intro A H xs ds d rx e Q hq
  unfold max2D at e
  split at e
  · cases e
    rw [two_of rx]
    exact ⟨_, _, rfl, hq _ fun _ _ => .int _⟩
  · cases e
theorem ve_min2 (hc : X.calm = true) (hg : Gl X "min") (hm : X.mg "min" = none) (ha : VA X (e :: es) fa) (hv : bootBuiltins "min" = some (.builtin "min") := by decide +kernel) (ns : NS X e es pos := by exact ⟨rfl, rfl⟩) : VE X (.Call (.Name "min" p) (e :: es) [] pos) (eCall min2D fa) := by
  refine ve_callB (call_min2 hc) (SndCS.c ?_) hg hm hv ha (ns := ns)
  intro A H xs ds d rx e Q hq
  unfold min2D at e
  split at e
  · cases e
    rw [two_of rx]
    exact ⟨_, _, rfl, hq _ fun _ _ => .int _⟩
  · cases e
theorem one_lst {E : Ev} {A : Addr → Prop} {H : Hp} {xs : List V} {ds : List D} (r : Reps E A H xs [.list ds]) : ∃ a vs, xs = [.ref a] ∧ H a = some (.lst vs) ∧ Reps E A H vs ds := by
  cases r with
  | cons a b => cases b; cases a with | lst _ e r => exact ⟨_, _, rfl, e, r⟩
theorem ve_maxL (hc : X.calm = true) (hg : Gl X "max") (hm : X.mg "max" = none) (ha : VA X (e :: es) fa) (hv : bootBuiltins "max" = some (.builtin "max") := by decide +kernel) (ns : NS X e es pos := by exact ⟨rfl, rfl⟩) : VE X (.Call (.Name "max" p) (e :: es) [] pos) (eCall maxLD fa) := by
  refine ve_callB (cr_max hc) (SndCS.c ?_) hg hm hv ha (ns := ns)
  intro A H xs ds d rx e Q hq
  unfold maxLD at e
  split at e
  · rename_i ys
    simp only [Option.bind_eq_some_iff] at e
    obtain ⟨ns, h1, h2⟩ := e
    split at h2
    · cases h2
    · rename_i hne
      cases h2
      obtain ⟨a, vs, rfl, e1, r1⟩ := one_lst rx
      rw [intsD_eq h1] at r1
      rw [r1.ints] at e1
      refine ⟨a, ns, rfl, SqL.of e1, List.length_pos_iff.mpr hne, fun m hm hle => ?_⟩
      have q := maxI_is hne
      have : m = maxI ns := Int.le_antisymm (q.2 m hm) (hle _ q.1)
      rw [this]
      exact hq _ fun _ _ => .int _
  · cases e
theorem ve_minL (hc : X.calm = true) (hg : Gl X "min") (hm : X.mg "min" = none) (ha : VA X (e :: es) fa) (hv : bootBuiltins "min" = some (.builtin "min") := by decide +kernel) (ns : NS X e es pos := by exact ⟨rfl, rfl⟩) : VE X (.Call (.Name "min" p) (e :: es) [] pos) (eCall minLD fa) := by
  refine ve_callB (cr_min hc) (SndCS.c ?_) hg hm hv ha (ns := ns)
  intro A H xs ds d rx e Q hq
  unfold minLD at e
  split at e
  · rename_i ys
    simp only [Option.bind_eq_some_iff] at e
    obtain ⟨ns, h1, h2⟩ := e
    split at h2
    · cases h2
    · rename_i hne
      cases h2
      obtain ⟨a, vs, rfl, e1, r1⟩ := one_lst rx
      rw [intsD_eq h1] at r1
      rw [r1.ints] at e1
      refine ⟨a, ns, rfl, SqL.of e1, List.length_pos_iff.mpr hne, fun m hm hle => ?_⟩
      have q := minI_is hne
      have : m = minI ns := Int.le_antisymm (hle _ q.1) (q.2 m hm)
      rw [this]
      exact hq _ fun _ _ => .int _
  · cases e
theorem ve_sum (hc : X.calm = true) (hg : Gl X "sum") (hm : X.mg "sum" = none) (ha : VA X (e :: es) fa) (hv : bootBuiltins "sum" = some (.builtin "sum") := by decide +kernel) (ns : NS X e es pos := by exact ⟨rfl, rfl⟩) : VE X (.Call (.Name "sum" p) (e :: es) [] pos) (eCall sumD fa) := by
  refine ve_callB (cr_sum hc) (SndCS.c ?_) hg hm hv ha (ns := ns)
  intro A H xs ds d rx e Q hq
  unfold sumD at e
  split at e
  · simp only [Option.map_eq_some_iff] at e
    obtain ⟨ns, h1, rfl⟩ := e
    obtain ⟨a, vs, rfl, e1, r1⟩ := one_lst rx
    rw [intsD_eq h1] at r1
    rw [r1.ints] at e1
    exact ⟨a, ns, rfl, SqL.of e1, hq _ fun _ _ => .int _⟩
  · cases e
theorem ve_all (hc : X.calm = true) (hg : Gl X "all") (hm : X.mg "all" = none) (ha : VA X (e :: es) fa) (hv : bootBuiltins "all" = some (.builtin "all") := by decide +kernel) (ns : NS X e es pos := by exact ⟨rfl, rfl⟩) : VE X (.Call (.Name "all" p) (e :: es) [] pos) (eCall allD fa) := by
  refine ve_callB (cr_all hc) (SndCS.c ?_) hg hm hv ha (ns := ns)
  intro A H xs ds d rx e Q hq
  unfold allD at e
  split at e
  · simp only [Option.map_eq_some_iff] at e
    obtain ⟨ns, h1, rfl⟩ := e
    obtain ⟨a, vs, rfl, e1, r1⟩ := one_lst rx
    rw [blsD_eq h1] at r1
    rw [r1.bls] at e1
    exact ⟨a, ns, rfl, SqL.of e1, hq _ fun _ _ => .bl _⟩
  · cases e
theorem ve_any (hc : X.calm = true) (hg : Gl X "any") (hm : X.mg "any" = none) (ha : VA X (e :: es) fa) (hv : bootBuiltins "any" = some (.builtin "any") := by decide +kernel) (ns : NS X e es pos := by exact ⟨rfl, rfl⟩) : VE X (.Call (.Name "any" p) (e :: es) [] pos) (eCall anyD fa) := by
  refine ve_callB (cr_any hc) (SndCS.c ?_) hg hm hv ha (ns := ns)
  intro A H xs ds d rx e Q hq
  unfold anyD at e
  split at e
  · simp only [Option.map_eq_some_iff] at e
    obtain ⟨ns, h1, rfl⟩ := e
    obtain ⟨a, vs, rfl, e1, r1⟩ := one_lst rx
    rw [blsD_eq h1] at r1
    rw [r1.bls] at e1
    exact ⟨a, ns, rfl, SqL.of e1, hq _ fun _ _ => .bl _⟩
  · cases e
/-! ### list(..), tuple(..) -/
def listD : List D → Option D
  | [.list xs] => some (.list xs)
  | [.tuple xs] => some (.list xs)
  | _ => none
def tupD : List D → Option D
  | [.list xs] => some (.tuple xs)
  | [.tuple xs] => some (.tuple xs)
  | _ => none
theorem vf_list (hg : Gl X "list") (hm : X.mg "list" = none) (ha : VA X (e :: es) fa) (hv : bootBuiltins "list" = some (.type "list") := by decide +kernel) (ns : NS X e es pos := by exact ⟨rfl, rfl⟩) : VF X (.Call (.Name "list" p) (e :: es) [] pos) (eCall listD fa) := by
  refine vf_callTy call_list_of ?_ hg hm hv ha (ns := ns)
  intro A H xs ds d rx e Q hq
  cases rx with
  | nil => cases e
  | cons r1 t =>
    cases t with
    | cons _ _ => cases r1 <;> simp [listD] at e
    | nil =>
      cases r1 <;> simp only [listD] at e
      all_goals first | (cases e; done) | skip
      · rename_i a vs ds e1 r1
        cases e
        exact ⟨a, vs, rfl, .inr e1.sqt, fun l hl => hq l vs ds hl rfl r1⟩
      · rename_i a vs ds n1 e1 r1
        cases e
        exact ⟨a, vs, rfl, .inl (SqL.of e1), fun l hl => hq l vs ds hl rfl r1⟩
theorem ve_tuple (hg : Gl X "tuple") (hm : X.mg "tuple" = none) (ha : VA X (e :: es) fa) (hv : bootBuiltins "tuple" = some (.type "tuple") := by decide +kernel) (ns : NS X e es pos := by exact ⟨rfl, rfl⟩) : VE X (.Call (.Name "tuple" p) (e :: es) [] pos) (eCall tupD fa) := by
  refine ve_callTy call_tuple_of ?_ hg hm hv ha (ns := ns)
  intro A H fre xs ds d rx e Q hq
  cases rx with
  | nil => cases e
  | cons r1 t =>
    cases t with
    | cons _ _ => cases r1 <;> simp [tupD] at e
    | nil =>
      cases r1 <;> simp only [tupD] at e
      all_goals first | (cases e; done) | skip
      · rename_i a vs ds e1 r1
        cases e
        exact ⟨a, vs, rfl, .inr ⟨e1.sqt, hq _ H (Same.refl H) (.tup e1 r1)⟩⟩
      · rename_i a vs ds n1 e1 r1
        cases e
        exact ⟨a, vs, rfl, .inl ⟨SqL.of e1, fun l hl => hq _ _ (same_new hl) (.tup (.inl ⟨fre.no hl, upd_same⟩) (r1.fz (Fz.of_same (same_new hl))))⟩⟩
end
end Fx
-- Fx5
namespace Fx
open PySem PySem.Spec L2

/-! ### isinstance -/
def tyN : D → Option String
  | .none => some "NoneType"
  | .bool _ => some "bool"
  | .int _ => some "int"
  | .str _ => some "str"
  | .list _ => some "list"
  | .tuple _ => some "tuple"
  | .dict _ => none
inductive Ty where | int | bool | str | list | tuple
def Ty.name : Ty → String
  | .int => "int" | .bool => "bool" | .str => "str" | .list => "list" | .tuple => "tuple"
def isiB : Ty → D → Option Bool
  | _, .dict _ => none
  | .int, .int _ => some true
  | .int, .bool _ => some true
  | .bool, .bool _ => some true
  | .str, .str _ => some true
  | .list, .list _ => some true
  | .tuple, .tuple _ => some true
  | _, _ => some false
def isiD (T : Ty) (d : D) : Option D := (isiB T d).map .bool
theorem kit_is (T : Ty) (d : D) {n : String} {b : Bool} (h : tyN d = some n) (e : isiB T d = some b) : kitB n T.name = some b := by
  cases T <;> cases d <;> simp only [tyN, isiB] at h e <;> cases h <;> cases e <;> decide +kernel
theorem Rep.ty {E : Ev} {A : Addr → Prop} {H : Hp} {v : V} {d : D} {b : Bool} {T : Ty} (r : Rep E A H v d) (e : isiB T d = some b) : ∃ n, tyN d = some n ∧ TyX E.K H v (.type n) := by
  cases r with
  | non => exact ⟨_, rfl, .base .non⟩
  | bl b => exact ⟨_, rfl, .base (.bl b)⟩
  | int i => exact ⟨_, rfl, .base (.int i)⟩
  | str x => exact ⟨_, rfl, .base (.str x)⟩
  | tup h r =>
    refine ⟨_, rfl, ?_⟩
    rcases h with h | ⟨_, o, its, n, h1, h2, _⟩
    · exact .base (.tup h.2)
    · exact .kTuple h1 h2
  | lst n h r => exact ⟨_, rfl, .base (.lst h)⟩
  | dt => cases T <;> cases e
  | dk => cases T <;> cases e
  | dx => cases T <;> cases e
section
variable {X : Cx} {p p2 p3 pos : Pos} {e : Expr} {f : Fe}
def nameT (T : Ty) : Str := Str.ofString T.name
theorem ve_isi (T : Ty) (hg : Gl X "isinstance") (hm : X.mg "isinstance" = none) (hgT : Gl X (nameT T)) (hmT : X.mg (nameT T) = none) (h : VE X e f) {x : Str} (hx : x = nameT T := by rfl) (hv : bootBuiltins "isinstance" = some (.builtin "isinstance") := by decide +kernel) (hvT : bootBuiltins (nameT T) = some (.type T.name) := by decide +kernel)
    (hn : nameT T ≠ "__name__" := by decide +kernel) (hd : (nameT T == ("__debug__" : Str)) = false := by decide +kernel) (ns : NS X e [.Name x p2] pos := by exact ⟨rfl, rfl⟩) (hs : starEach [.Name x p2] X.env = (false, eval (.Name x p2) X.env) :: starEach [] X.env := by rfl) :
    VE X (.Call (.Name "isinstance" p) [e, .Name x p2] [] pos) (eUn (isiD T) f) := by
  subst hx
  obtain ⟨t, pe, sn⟩ := h.ex
  refine ⟨_, pe_callB call_isi hg hm hv (pa_cons pe (pa_cons (pe_bltn (v := .ty T.name) hgT hmT hvT rfl hn hd) pa_nil hs) ns.he) (by decide) (by decide) ns.he ns.hpl, ?_⟩
  intro G W σ H s d s' R hf Q hq
  obtain ⟨x, h1, h2⟩ := eUn_some hf
  refine sn G W σ H s x s' R h1 _ fun v H1 R1 z1 p1 => ?_
  unfold isiD at h2
  simp only [Option.map_eq_some_iff] at h2
  obtain ⟨b, h3, rfl⟩ := h2
  obtain ⟨n, e1, ty⟩ := p1.ty h3
  exact ⟨v, .ty T.name, .type n, .type T.name, b, rfl, .ty _, ty, kit_ty (kit_is T x e1 h3), hq _ H1 R1 z1 (.bl b)⟩
end
/-! ### sorted -/
def sortableB (ds : List D) : Bool := ds.all (fun d => match d with | .tuple (_ :: _) => true | _ => false) || ds.all (fun d => match d with | .none => false | .tuple _ => false | _ => true)
def alikeB (ds : List D) : Bool := ds.all fun d => ds.all fun d' => PySem.W.alike d d'
def shapedB (ds : List D) : Bool := ds.all fun d => d.canLay0 && decide (d.depth ≤ 60)
def sortL (ds : List D) : List D := ds.mergeSort (PySem.W.dataLe false id)
def sortedD : List D → Option D
  | [.list ds] => if alikeB ds = true ∧ sortableB ds = true ∧ shapedB ds = true then some (.list (sortL ds)) else none
  | [.tuple ds] => none
  | _ => none
theorem sortable_of {ds : List D} (h : sortableB ds = true) : PySem.W.Sortable ds := by
  unfold sortableB at h
  rw [Bool.or_eq_true] at h
  rcases h with h | h
  · refine .inl fun d hd => ?_
    have q := List.all_eq_true.mp h d hd
    split at q
    · exact ⟨_, _, rfl⟩
    · cases q
  · refine .inr fun d hd => ?_
    have q := List.all_eq_true.mp h d hd
    split at q
    · cases q
    · cases q
    · rename_i h1 h2
      exact ⟨fun z => h1 z, fun xs z => h2 xs z⟩
theorem alike_of {ds : List D} (h : alikeB ds = true) : PySem.W.AllAlike ds := fun d hd d' hd' => List.all_eq_true.mp (List.all_eq_true.mp h d hd) d' hd'
def rSortD (K : PySem.W.Frag) : List V → Hp → VK → Prop := fun vs H Q => ∃ (a : Addr) (xs : List V) (ds : List D), vs = [V.ref a] ∧ SqL K H a xs ∧ DpAll K H xs ds ∧ alikeB ds = true ∧ sortableB ds = true ∧ shapedB ds = true ∧
  ∀ p, H p = none → Q (.ref p) (upd H p (.lst (((xs.zip ds).mergeSort (PySem.W.dataLe false (·.2))).map (·.1))))
theorem dpAll_length {K : PySem.W.Frag} {H : Hp} : ∀ {xs : List V} {ds : List D}, DpAll K H xs ds → xs.length = ds.length
  | _, _, .nil => rfl
  | _, _, .cons _ t => by simp [dpAll_length t]
theorem each_zip {h : Heap} : ∀ {xs : List V} {us : List Value} {ds : List D} {as : List Addr}, Vals xs us → PySem.ReadsAll h us ds as →
    PySem.W.EachIs (fun (u : Value) (b : V × D) => RelV b.1 u) us (xs.zip ds) ∧ PySem.W.EachIs (fun (u : Value) (b : V × D) => ∃ as, PySem.Reads h u b.2 as) us (xs.zip ds)
  | _, _, _, _, .nil, .nil => ⟨.nil, .nil⟩
  | _, _, _, _, .cons r t, .cons h1 h2 => let ⟨a, b⟩ := each_zip t h2; ⟨.cons r a, .cons ⟨_, h1⟩ b⟩
theorem vals_each : ∀ {us : List Value} {bs : List (V × D)}, PySem.W.EachIs (fun (u : Value) (b : V × D) => RelV b.1 u) us bs → Vals (bs.map (·.1)) us
  | _, _, .nil => .nil
  | _, _, .cons r t => .cons r (vals_each t)
theorem cr_sortD {X : Cx} (hu : X.A.units + 64 < cLine) : CallR X (.builtin "sorted") (rSortD X.K) := by
  intro pins s σ H vs us Q I r h
  obtain ⟨a, xs, ds, rfl, hs, hd, ha, hk, hz, q⟩ := h
  obtain ⟨its, rv, hl, hz'⟩ := I.list hs
  rw [Vals.ref1 r]
  obtain ⟨as, rd⟩ := Dp.readsAll I ds xs its hd rv
  obtain ⟨e1, e2⟩ := each_zip rv rd
  have em : (xs.zip ds).map (fun b => b.2) = ds := List.map_snd_zip (Nat.le_of_eq (dpAll_length hd).symm)
  have el : (xs.zip ds).length = xs.length := by rw [List.length_zip, dpAll_length hd]; exact Nat.min_self _
  refine PySem.W.sorted_data (enc := fun b : V × D => b.2) hl.isList e1 e2 (by rw [em]; exact alike_of ha) (by rw [em]; exact sortable_of hk) (by rw [el]; exact hz') (fun b hb => ?_) fun out ho he => ?_
  · have hb' : b.2 ∈ ds := by rw [← em]; exact List.mem_map.mpr ⟨b, hb, rfl⟩
    have q := List.all_eq_true.mp hz _ hb'
    simp only [Bool.and_eq_true, decide_eq_true_eq] at q
    omega
  · obtain ⟨ep, he'⟩ := PyProof.Rows.sortedAll_at s.heap its out.toArray
    have hlen : (((xs.zip ds).mergeSort (PySem.W.dataLe false (·.2))).map (·.1)).length ≤ sizeLine := by
      rw [List.length_map, List.length_mergeSort, el]
      exact hz'
    exact ⟨.ref _, upd H (s.heap.objs.size + 1) (.lst (((xs.zip ds).mergeSort (PySem.W.dataLe false (·.2))).map (·.1))), I.laid (t' := s.toks) (fun _ _ => PyProof.Rows.sortedAll_old) (Nat.le_succ _) ⟨hlen, out, ep, vals_each he, he'⟩, rfl, q _ (I.hok.fresh (Nat.le_succ _))⟩
theorem Reps.zip {E : Ev} {A : Addr → Prop} {H : Hp} : ∀ {xs : List V} {ds : List D}, Reps E A H xs ds → ∀ b ∈ xs.zip ds, Rep E A H b.1 b.2
  | _, _, .nil, b, h => by cases h
  | _, _, .cons r t, b, h => by
    rcases List.mem_cons.mp h with rfl | h
    · exact r
    · exact Reps.zip t b h
theorem Reps.of_pairs {E : Ev} {A : Addr → Prop} {H : Hp} : ∀ {bs : List (V × D)}, (∀ b ∈ bs, Rep E A H b.1 b.2) → Reps E A H (bs.map (·.1)) (bs.map (·.2))
  | [], _ => .nil
  | b :: bs, h => .cons (h b List.mem_cons_self) (Reps.of_pairs fun c hc => h c (List.mem_cons_of_mem _ hc))
theorem sort_snd {xs : List V} {ds : List D} (hl : xs.length = ds.length) : ((xs.zip ds).mergeSort (PySem.W.dataLe false (·.2))).map (·.2) = sortL ds := by
  have h := PySem.W.sort_maps (r := PySem.W.dataLe false fun b : V × D => b.2) (s := PySem.W.dataLe false id) (fun b : V × D => b.2) (l := xs.zip ds) (fun _ _ _ _ => rfl)
  rw [List.map_snd_zip (Nat.le_of_eq hl.symm)] at h
  exact h
theorem shaped_canLay {ds : List D} (h : shapedB ds = true) : PyData.canLayAll0 ds = true := by
  induction ds with
  | nil => rfl
  | cons d ds ih =>
    unfold shapedB at h
    rw [List.all_cons, Bool.and_eq_true, Bool.and_eq_true] at h
    rw [PyData.canLayAll0, h.1.1, ih h.2]
    rfl
section
variable {X : Cx} {p pos : Pos} {e : Expr} {es : List Expr} {fa : Fa}
theorem vf_sorted (hu : X.A.units + 64 < cLine) (hg : Gl X "sorted") (hm : X.mg "sorted" = none) (ha : VA X (e :: es) fa) (hv : bootBuiltins "sorted" = some (.builtin "sorted") := by decide +kernel) (ns : NS X e es pos := by exact ⟨rfl, rfl⟩) : VF X (.Call (.Name "sorted" p) (e :: es) [] pos) (eCall sortedD fa) := by
  refine vf_callB (cr_sortD hu) ?_ hg hm hv ha (ns := ns)
  intro A H xs ds d rx e Q hq
  unfold sortedD at e
  split at e
  · rename_i ys
    split at e
    · rename_i hc
      cases e
      obtain ⟨a, vs, rfl, e1, r1⟩ := one_lst rx
      refine ⟨a, vs, ys, rfl, SqL.of e1, r1.dp (shaped_canLay hc.2.2), hc.1, hc.2.1, hc.2.2, fun q hn => ?_⟩
      refine hq q _ _ hn rfl ?_
      rw [← sort_snd r1.length]
      exact Reps.of_pairs fun b hb => r1.zip b (List.mem_mergeSort.mp hb)
    · cases e
  · cases e
  · cases e
end
end Fx
-- Fx6
namespace Fx
open PySem PySem.Spec L2
/-! ### in, not in: lists and tuples of data -/
def rInU (K : PySem.W.Frag) (neg : Bool) : R2 := fun x y H Q => ∃ d ds, Dp K H x d ∧ Dp K H y (.tuple ds) ∧ SeqAt.shaped d = true ∧ SeqAt.shaped (.tuple ds) = true ∧ Q (.bl (if neg then !ds.any fun z => PyData.eqv z d else ds.any fun z => PyData.eqv z d)) H
theorem op_inU {X : Cx} (hu : X.A.units + 65 < cLine) : OpR X (compareOp .In) (rInU X.K false) := by
  intro pins s σ H x y v u Q I rx ry h
  obtain ⟨d, ds, hd, he, sd, se, q⟩ := h
  obtain ⟨as, r1⟩ := Dp.reads I d x v hd rx
  obtain ⟨bs, r2⟩ := Dp.reads I (.tuple ds) y u he ry
  exact SeqAt.in_tuple_reads r2 r1 (SeqAt.canLay_of_shaped se) (SeqAt.canLay_of_shaped sd) (PyProof.Rows.room_in_shaped sd hu) ⟨.bl _, H, I, rfl, q⟩
theorem op_notInU {X : Cx} (hu : X.A.units + 65 < cLine) : OpR X (compareOp .NotIn) (rInU X.K true) := by
  intro pins s σ H x y v u Q I rx ry h
  obtain ⟨d, ds, hd, he, sd, se, q⟩ := h
  obtain ⟨as, r1⟩ := Dp.reads I d x v hd rx
  obtain ⟨bs, r2⟩ := Dp.reads I (.tuple ds) y u he ry
  exact SeqAt.notIn_tuple_reads r2 r1 (SeqAt.canLay_of_shaped se) (SeqAt.canLay_of_shaped sd) (PyProof.Rows.room_in_shaped sd hu) ⟨.bl _, H, I, rfl, q⟩
def seqD : D → Option (List D)
  | .list xs => some xs
  | .tuple xs => some xs
  | _ => none
def inD (d c : D) : Option D := (seqD c).bind fun ds => if SeqAt.shaped d = true ∧ SeqAt.shaped c = true then some (.bool (ds.any fun z => PyData.eqv z d)) else none
def notInD (d c : D) : Option D := (seqD c).bind fun ds => if SeqAt.shaped d = true ∧ SeqAt.shaped c = true then some (.bool (!ds.any fun z => PyData.eqv z d)) else none
section
variable {E : Ev}
theorem sr_in : SndRS E (fun x y H Q => rInD E.K x y H Q ∨ rInU E.K false x y H Q) inD := by
  intro A H x y dx dy dz rx ry e Q hq
  unfold inD at e
  simp only [Option.bind_eq_some_iff] at e
  obtain ⟨ds, h1, h2⟩ := e
  split at h2
  · rename_i hs
    cases h2
    cases dy <;> simp only [seqD] at h1
    all_goals first | (cases h1; done) | skip
    · cases h1
      exact .inl ⟨dx, ds, rx.dp (shaped_lay hs.1), ry.dp (shaped_lay hs.2), hs.1, hs.2, hq _ fun _ _ => .bl _⟩
    · cases h1
      exact .inr ⟨dx, ds, rx.dp (shaped_lay hs.1), ry.dp (shaped_lay hs.2), hs.1, hs.2, hq _ fun _ _ => .bl _⟩
  · cases h2
theorem sr_notIn : SndRS E (fun x y H Q => rNotInD E.K x y H Q ∨ rInU E.K true x y H Q) notInD := by
  intro A H x y dx dy dz rx ry e Q hq
  unfold notInD at e
  simp only [Option.bind_eq_some_iff] at e
  obtain ⟨ds, h1, h2⟩ := e
  split at h2
  · rename_i hs
    cases h2
    cases dy <;> simp only [seqD] at h1
    all_goals first | (cases h1; done) | skip
    · cases h1
      exact .inl ⟨dx, ds, rx.dp (shaped_lay hs.1), ry.dp (shaped_lay hs.2), hs.1, hs.2, hq _ fun _ _ => .bl _⟩
    · cases h1
      exact .inr ⟨dx, ds, rx.dp (shaped_lay hs.1), ry.dp (shaped_lay hs.2), hs.1, hs.2, hq _ fun _ _ => .bl _⟩
  · cases h2
end
section
variable {X : Cx} {a b : Expr} {f f1 f2 : Fe} {pos : Pos}
theorem ve_in (hu : X.A.units + 65 < cLine) (ha : VE X a f1) (hb : VE X b f2) (hm : behindInMarks .In b = false := by rfl) : VE X (.Compare a [.In] [b] pos) (eBin inD f1 f2) := ve_cmp ((op_inD hu).or (op_inU hu)) sr_in.r ha hb hm
theorem vt_in (hu : X.A.units + 65 < cLine) (ha : VE X a f1) (hb : VE X b f2) (hm : behindInMarks .In b = false := by rfl) : VT X (.Compare a [.In] [b] pos) (eBin inD f1 f2) := vt_cmp ((op_inD hu).or (op_inU hu)) sr_in.r ha hb hm
theorem ve_notIn (hu : X.A.units + 65 < cLine) (ha : VE X a f1) (hb : VE X b f2) (hm : behindInMarks .NotIn b = false := by rfl) : VE X (.Compare a [.NotIn] [b] pos) (eBin notInD f1 f2) := ve_cmp ((op_notInD hu).or (op_notInU hu)) sr_notIn.r ha hb hm
theorem vt_notIn (hu : X.A.units + 65 < cLine) (ha : VE X a f1) (hb : VE X b f2) (hm : behindInMarks .NotIn b = false := by rfl) : VT X (.Compare a [.NotIn] [b] pos) (eBin notInD f1 f2) := vt_cmp ((op_notInD hu).or (op_notInU hu)) sr_notIn.r ha hb hm
end
/-! ### slices -/
abbrev Fo := S → Option (Option Int × S)
def SndO (E : Ev) (t : TO) (f : Fo) : Prop := ∀ G W σ H s d s', Rel E G W H σ s → f s = some (d, s') → ∀ Q : Option Int → Hp → Prop,
  (∀ H', Rel E G W H' σ s' → Fz (Av G W) (Av G W) H H' → Q d H') → t σ H Q
structure VO (X : Cx) (e : Option Expr) (f : Fo) : Prop where
  ex : ∃ t, PO X e t ∧ SndO (evX X) t f
def oNone : Fo := fun s => some (none, s)
def oSome (f : Fe) : Fo := fun s => (f s).bind fun (x, s1) => match x with
  | .int i => some (some i, s1)
  | _ => none
/-- xs[lo:hi] -/
def cutL {α : Type} (xs : List α) (lo hi : Option Int) : List α := (xs.drop (HT.sIx xs.length 0 lo)).take (HT.sIx xs.length xs.length hi - HT.sIx xs.length 0 lo)
def eSl (g : D → Option Int → Option Int → Option D) (f : Fe) (l h : Fo) : Fe := fun s => (f s).bind fun (x, s1) => (l s1).bind fun (lo, s2) => (h s2).bind fun (hi, s3) => (g x lo hi).map fun z => (z, s3)
def slT (d : D) (lo hi : Option Int) : Option D := match d with
  | .tuple xs => some (.tuple (cutL xs lo hi))
  | .str z => if z.length ≤ 100000 then some (.str (cutS z lo hi)) else none
  | _ => none
def slL (d : D) (lo hi : Option Int) : Option D := match d with
  | .list xs => some (.list (cutL xs lo hi))
  | _ => none
section
variable {X : Cx} {a b : Expr} {f f1 f2 : Fe} {pos p2 : Pos} {l h : Fo} {lo hi : Option Expr}
theorem vo_none : VO X none oNone := ⟨_, po_none, fun G W σ H s d s' R hf Q hq => by cases hf; exact hq H R Fz.refl⟩
theorem vo_some (he : VE X a f) : VO X (some a) (oSome f) := by
  obtain ⟨t, p, sn⟩ := he.ex
  refine ⟨_, po_some p, ?_⟩
  intro G W σ H s d s' R hf Q hq
  unfold oSome at hf
  simp only [Option.bind_eq_some_iff] at hf
  obtain ⟨⟨x, s1⟩, h1, h2⟩ := hf
  dsimp only at h2
  split at h2
  · cases h2
    refine sn G W σ H s _ _ R h1 _ fun v H1 R1 z1 p1 => ?_
    cases p1
    exact ⟨_, rfl, hq H1 R1 z1⟩
  · cases h2
theorem eSl_some {g : D → Option Int → Option Int → Option D} {s s' : S} {d : D} (e : eSl g f l h s = some (d, s')) : ∃ x s1 i s2 j, f s = some (x, s1) ∧ l s1 = some (i, s2) ∧ h s2 = some (j, s') ∧ g x i j = some d := by
  unfold eSl at e
  simp only [Option.bind_eq_some_iff, Option.map_eq_some_iff] at e
  obtain ⟨⟨x, s1⟩, h1, ⟨i, s2⟩, h2, ⟨j, s3⟩, h3, z, h4, h5⟩ := e
  cases h5
  exact ⟨x, s1, i, s2, j, h1, h2, h3, h4⟩
theorem Reps.drop {E : Ev} {A : Addr → Prop} {H : Hp} : ∀ {xs : List V} {ds : List D} (n : Nat), Reps E A H xs ds → Reps E A H (xs.drop n) (ds.drop n)
  | _, _, 0, r => r
  | _, _, _ + 1, .nil => .nil
  | _, _, n + 1, .cons _ t => Reps.drop n t
theorem Reps.take {E : Ev} {A : Addr → Prop} {H : Hp} : ∀ {xs : List V} {ds : List D} (n : Nat), Reps E A H xs ds → Reps E A H (xs.take n) (ds.take n)
  | _, _, 0, _ => .nil
  | _, _, _ + 1, .nil => .nil
  | _, _, n + 1, .cons r t => .cons r (Reps.take n t)
theorem Reps.cut {E : Ev} {A : Addr → Prop} {H : Hp} {xs : List V} {ds : List D} (r : Reps E A H xs ds) (lo hi : Option Int) : Reps E A H (cutV xs lo hi) (cutL ds lo hi) := by
  unfold cutV cutL
  rw [r.length]
  exact (r.drop _).take _
theorem ve_slT (he : VE X a f) (hl : VO X lo l) (hh : VO X hi h) : VE X (.Subscript a (.Slice lo hi none p2) pos) (eSl slT f l h) := by
  obtain ⟨t, p, sn⟩ := he.ex
  obtain ⟨tl, pl, sl⟩ := hl.ex
  obtain ⟨th, ph, sh⟩ := hh.ex
  refine ⟨_, pe_slice (sl_tupA.or sl_str) p pl ph, ?_⟩
  intro G W σ H s d s' R hf Q hq
  obtain ⟨x, s1, i, s2, j, h1, h2, h3, h4⟩ := eSl_some hf
  refine sn G W σ H s _ _ R h1 _ fun v H1 R1 z1 p1 => ?_
  refine sl G W σ H1 s1 _ _ R1 h2 _ fun H2 R2 z2 => ?_
  refine sh G W σ H2 s2 _ _ R2 h3 _ fun H3 R3 z3 => ?_
  have p3 := (p1.fz z2).fz z3
  have zz := (z1.trans z2).trans z3
  cases p3 <;> simp only [slT] at h4
  all_goals first | (cases h4; done) | skip
  · split at h4
    · rename_i hl; cases h4
      exact .inr ⟨_, rfl, line_of hl, hq _ H3 R3 zz (.str _)⟩
    · cases h4
  · rename_i a xs ds e1 r1
    cases h4
    refine .inl ⟨a, xs, rfl, e1.sqt, fun hw => ?_, fun hw q hn => ?_⟩
    · refine hq _ H3 R3 zz ?_
      have e : cutL ds i j = ds := by
        unfold cutL
        rw [← r1.length, hw.1, hw.2]
        simp [r1.length]
      rw [e]
      exact .tup e1 r1
    · have k := same_new (o := .tup (cutV xs i j)) hn
      exact hq _ _ (R3.same k) (zz.trans (Fz.of_same k)) (.tup (.inl ⟨R3.free hn, upd_same⟩) ((r1.cut i j).fz (Fz.of_same k)))
theorem vf_sl (he : VE X a f) (hl : VO X lo l) (hh : VO X hi h) : VF X (.Subscript a (.Slice lo hi none p2) pos) (eSl slL f l h) := by
  obtain ⟨t, p, sn⟩ := he.ex
  obtain ⟨tl, pl, sl⟩ := hl.ex
  obtain ⟨th, ph, sh⟩ := hh.ex
  refine ⟨_, pe_slice sl_list p pl ph, ?_⟩
  intro G W σ H s d s' R hf Q hq
  obtain ⟨x, s1, i, s2, j, h1, h2, h3, h4⟩ := eSl_some hf
  refine sn G W σ H s _ _ R h1 _ fun v H1 R1 z1 p1 => ?_
  refine sl G W σ H1 s1 _ _ R1 h2 _ fun H2 R2 z2 => ?_
  refine sh G W σ H2 s2 _ _ R2 h3 _ fun H3 R3 z3 => ?_
  have p3 := (p1.fz z2).fz z3
  have zz := (z1.trans z2).trans z3
  cases p3 <;> simp only [slL] at h4
  all_goals first | (cases h4; done) | skip
  rename_i a xs ds n1 e1 r1
  cases h4
  exact ⟨a, xs, rfl, SqL.of e1, fun q hn => hq q _ (none_back R zz R3.there hn) (R3.laid hn) (zz.laid' hn) (new_list hn (r1.cut i j))⟩
/-- xs[::-1] -/
def revD : D → Option D
  | .list xs => some (.list xs.reverse)
  | _ => none
theorem Reps.reverse {E : Ev} {A : Addr → Prop} {H : Hp} : ∀ {xs : List V} {ds : List D}, Reps E A H xs ds → Reps E A H xs.reverse ds.reverse
  | _, _, .nil => .nil
  | _, _, .cons r t => by
    rw [List.reverse_cons, List.reverse_cons]
    exact (Reps.reverse t).append (.cons r .nil)
theorem vf_rev {k : Nat} {q1 q2 q3 : Pos} (he : VE X a f) : VF X (.Subscript a (.Slice none none (some (.UnaryOp .USub (.Constant (.int 1) k q1) q2)) q3) pos) (eUn revD f) := by
  obtain ⟨t, p, sn⟩ := he.ex
  refine ⟨_, pe_revL p, ?_⟩
  intro G W σ H s d s' R hf Q hq
  obtain ⟨x, h1, h2⟩ := eUn_some hf
  refine sn G W σ H s _ _ R h1 _ fun v H1 R1 z1 p1 => ?_
  cases p1 <;> simp only [revD] at h2
  all_goals first | (cases h2; done) | skip
  rename_i a xs ds n1 e1 r1
  cases h2
  exact ⟨a, xs, rfl, SqL.of e1, fun q hn => hq q _ (none_back R z1 R1.there hn) (R1.laid hn) (z1.laid' hn) (new_list hn r1.reverse)⟩
end
end Fx
-- Fx7
namespace Fx
open PySem PySem.Spec L2

/-! ### promises of defs: functions on data -/
/-- a value -/
def spV (E : Ev) (n : Nat) (g : List D → Option D) : Sp := fun vs H Q _ => ∃ (O : Addr → Prop) (ds : List D) (d : D), ds.length = n ∧ Reps E O H vs ds ∧ Fre O H ∧ g ds = some d ∧
  ∀ v H', Same H H' → Rep E O H' v d → Q v H'
/-- a new list or dict -/
def spL (E : Ev) (n : Nat) (g : List D → Option D) : Sp := fun vs H Q _ => ∃ (O : Addr → Prop) (ds : List D) (d : D), ds.length = n ∧ Reps E O H vs ds ∧ Fre O H ∧ g ds = some d ∧
  ∀ p H', Same H H' → H p = none → Top E (fun a => O a ∨ a = p) H' p d → Q (.ref p) H'
theorem spV_len {E : Ev} {n : Nat} {g : List D → Option D} : ∀ vs H Q X, spV E n g vs H Q X → vs.length = n := fun vs H Q X ⟨_, ds, _, h1, h2, _⟩ => by rw [h2.length]; exact h1
theorem spL_len {E : Ev} {n : Nat} {g : List D → Option D} : ∀ vs H Q X, spL E n g vs H Q X → vs.length = n := fun vs H Q X ⟨_, ds, _, h1, h2, _⟩ => by rw [h2.length]; exact h1
def eFn (n : Nat) (g : List D → Option D) (fa : Fa) : Fe := fun s => (fa s).bind fun (xs, s1) => if xs.length = n then (g xs).map fun z => (z, s1) else none
theorem eFn_some {n : Nat} {g : List D → Option D} {fa : Fa} {s s' : S} {d : D} (h : eFn n g fa s = some (d, s')) : ∃ xs, fa s = some (xs, s') ∧ xs.length = n ∧ g xs = some d := by
  unfold eFn at h
  simp only [Option.bind_eq_some_iff] at h
  obtain ⟨⟨x, s1⟩, h1, h2⟩ := h
  dsimp only at h2
  split at h2
  · simp only [Option.map_eq_some_iff] at h2
    obtain ⟨z, h3, h4⟩ := h2
    cases h4
    exact ⟨x, h1, by assumption, h3⟩
  · cases h2
section
variable {X : Cx} {k n : Nat} {f : Addr} {fd : FuncData} {ps : List Str} {g : List D → Option D} {x : Str} {p pos : Pos} {e : Expr} {es : List Expr} {fa : Fa}
theorem ve_fn (F : FnOk X.prog X.w X.K X.mg X.base CX0 k f fd ps (spV (evX X) n g)) (hr : Room k X.A) (hg : Gl X x) (hm : X.mg x = some (.ref f)) (hk : PySem.W.keepIn X.K (.ref f) = true) (hb : Binds X.K fd ps []) (ha : VA X (e :: es) fa) (hdb : (x == ("__debug__" : Str)) = false := by decide +kernel) (ns : NS X e es pos := by exact ⟨rfl, rfl⟩) :
    VE X (.Call (.Name x p) (e :: es) [] pos) (eFn n g fa) := by
  obtain ⟨t, pa, sa⟩ := ha.ex
  refine ⟨_, pe_call F hr hg hm hk hb .nil pass0 pa hdb ns.he ns.hpl, ?_⟩
  intro G W σ H s d s' R hf Q hq
  obtain ⟨xs, h1, h2, h3⟩ := eFn_some hf
  refine sa G W σ H s xs s' R h1 _ fun vs H1 R1 z1 p1 => ?_
  refine ⟨Av G W, xs, d, h2, by rw [List.append_nil]; exact p1, R1.fre, h3, fun v H2 sm p2 => ?_⟩
  exact hq v H2 (R1.same sm) (z1.trans (Fz.of_same sm)) p2
theorem Rel.bar {E : Ev} {G : Cfg} {W : Wt} {H H' : Hp} {σ : L2.St} {s : S} {p : Addr} (R : Rel E G W H σ s) (k : Same H H') (h : H p = none) (h' : ∃ o, H' p = some o ∧ NT o) : Rel E (G.bar p) W H' σ s := by
  have f : Fz (Av G W) (Av (G.bar p) W) H H' := fun a u n e => ⟨fun
    | .inl (.inl z) => n (.inl z)
    | .inl (.inr z) => by rw [z, h] at e; cases e
    | .inr z => n (.inr z), k a u e⟩
  exact {
    len := R.len
    fr := fun a u e t => k a u (R.fr a u e t)
    val := fun i d e => let ⟨v, e1, q⟩ := R.val i d e; ⟨v, e1, q.fz f⟩
    own := fun i d e => let ⟨a, e1, e2, q⟩ := R.own i d e; ⟨a, e1, e2, q.fz f fun u => k a u⟩
    dom := fun i a e => by
      obtain ⟨h1, h2, h3, h4⟩ := R.dom i a e
      refine ⟨h1, h2, ?_, h4⟩
      rintro (z | z)
      · exact h3 z
      · subst z; exact R.free h (.inr (.inl ⟨i, e⟩))
    inj := R.inj
    obj := fun a => fun
      | .inl z => let ⟨u, e, q⟩ := R.obj a z; ⟨u, k a u e, q⟩
      | .inr z => by rw [z]; exact h'
    tow := R.tow.same fun a u _ => k a u
    tnc := R.tnc
    rwc := R.rwc
    noc := R.noc
    ptc := R.ptc
    pl := R.pl.same fun a u _ => k a u
    plc := fun i d e => (R.plc i d e).step f fun a u _ => k a u }
theorem vf_fn (F : FnOk X.prog X.w X.K X.mg X.base CX0 k f fd ps (spL (evX X) n g)) (hr : Room k X.A) (hg : Gl X x) (hm : X.mg x = some (.ref f)) (hk : PySem.W.keepIn X.K (.ref f) = true) (hb : Binds X.K fd ps []) (ha : VA X (e :: es) fa) (hdb : (x == ("__debug__" : Str)) = false := by decide +kernel) (ns : NS X e es pos := by exact ⟨rfl, rfl⟩) :
    VF X (.Call (.Name x p) (e :: es) [] pos) (eFn n g fa) := by
  obtain ⟨t, pa, sa⟩ := ha.ex
  refine ⟨_, pe_call F hr hg hm hk hb .nil pass0 pa hdb ns.he ns.hpl, ?_⟩
  intro G W σ H s d s' R hf Q hq
  obtain ⟨xs, h1, h2, h3⟩ := eFn_some hf
  refine sa G W σ H s xs s' R h1 _ fun vs H1 R1 z1 p1 => ?_
  refine ⟨Av G W, xs, d, h2, by rw [List.append_nil]; exact p1, R1.fre, h3, fun q H2 sm hn tp => ?_⟩
  refine hq q H2 (none_back R z1 R1.there hn) (R1.bar sm hn (let ⟨o, e, n, _⟩ := tp.there; ⟨o, e, n⟩)) (fun a u hna he => ?_) (tp.fz (Fz.weak fun a => ?_) fun _ e => e)
  · have e1 := z1 a u hna he
    refine ⟨?_, sm a u e1.2⟩
    rintro ((z | z) | z)
    · exact hna (.inl z)
    · rw [z, hn] at e1; cases e1.2
    · exact hna (.inr z)
  · rintro ((z | z) | z)
    · exact .inl (.inl z)
    · exact .inr z
    · exact .inl (.inr z)
end

/-! ### statements -/
inductive Fl where
  | next | brk | cont | ret (d : D) | retF (d : D)
abbrev Fs := S → Option (Fl × S)
/-- a town is not changed for another -/
def Wk (W W' : Wt) : Prop := (∀ t, W.tn = some t → W'.tn = some t) ∧ ∀ q, W.mt 0 = some q → W'.mt 0 = some q
theorem Wk.refl {W : Wt} : Wk W W := ⟨fun _ h => h, fun _ h => h⟩
theorem Wk.trans {A B C : Wt} (a : Wk A B) (b : Wk B C) : Wk A C := ⟨fun t h => b.1 t (a.1 t h), fun t h => b.2 t (a.2 t h)⟩
/-- .. at a def's end -/
def WkR (s : S) (W W' : Wt) : Prop := (∀ t, W.tn = some t → W'.tn = some t) ∧ ∀ q d, s.rho[0]? = some (.pln d) → W.mt 0 = some q → W'.mt 0 = some q
theorem WkR.refl {s : S} {W : Wt} : WkR s W W := ⟨fun _ h => h, fun _ _ _ h => h⟩
theorem Wk.transR {s : S} {A B C : Wt} (a : Wk A B) (b : WkR s B C) : WkR s A C := ⟨fun t h => b.1 t (a.1 t h), fun q d e h => b.2 q d e (a.2 q h)⟩
theorem Wk.r {s : S} {A B : Wt} (a : Wk A B) : WkR s A B := ⟨a.1, fun q _ _ => a.2 q⟩
/-- what a def's end leaves -/
def AvR (G : Cfg) (W : Wt) (a : Addr) : Prop := G.O a ∨ TownA W a
structure Left (E : Ev) (G : Cfg) (W : Wt) (H : Hp) (s : S) : Prop where
  fr : ∀ a o, G.H0 a = some o → ¬ TownA W a → H a = some o
  tow : TownOk W.tn H s.tw
  pl : PlOk G.H0 W H
  plc : ∀ (i : Nat) (d : D), s.rho[i]? = some (.pln d) → ∃ q, W.mt i = some q ∧ PlanAt E (AvR G W) H q d
def Post (E : Ev) (G : Cfg) (W : Wt) (H : Hp) (Dn : Ends) : Option (Fl × S) → Prop
  | some (.next, s') => ∀ W' σ' H', Rel E G W' H' σ' s' → Fz (Av G W) (Av G W') H H' → Wk W W' → Dn.nx σ' H'
  | some (.brk, s') => ∀ W' σ' H', Rel E G W' H' σ' s' → Fz (Av G W) (Av G W') H H' → Wk W W' → Dn.bk σ' H'
  | some (.cont, s') => ∀ W' σ' H', Rel E G W' H' σ' s' → Fz (Av G W) (Av G W') H H' → Wk W W' → Dn.ct σ' H'
  | some (.ret d, s') => ∀ W' v H', Left E G W' H' s' → WkR s' W W' → Rep E (AvR G W') H' v d → Dn.rt v H'
  | some (.retF d, s') => ∀ W' p H', Left E G W' H' s' → WkR s' W W' → G.H0 p = none → ¬ AvR G W' p → Top E (fun a => AvR G W' a ∨ a = p) H' p d → Dn.rt (.ref p) H'
  | none => False
def SndS (E : Ev) (t : TS) (F : Fs) : Prop := ∀ G W σ H s Dn, Rel E G W H σ s → Post E G W H Dn (F s) → t Dn σ H
structure VS (X : Cx) (st : Stmt) (F : Fs) : Prop where
  ex : ∃ t, PS X st t ∧ SndS (evX X) t F
structure VB (X : Cx) (st : List Stmt) (F : Fs) : Prop where
  ex : ∃ t, PSs X st t ∧ SndS (evX X) t F
section
variable {E : Ev} {G : Cfg} {W W' : Wt} {H H' : Hp} {σ σ' : L2.St} {s s' : S} {Dn Dn' : Ends}
theorem PlanAt.weak {A B : Addr → Prop} {q : Addr × Addr} {d : D} (h : ∀ a, B a → A a) (p : PlanAt E A H q d) : PlanAt E B H q d := p.same (Fz.weak h) fun _ _ _ e => e
theorem Rel.left (R : Rel E G W H σ s) : Left E G W H s := ⟨R.fr, R.tow, R.pl, fun i d h => let ⟨q, e, _, p⟩ := R.plc i d h; ⟨q, e, p.weak fun a z => by
  rcases z with z | z
  · exact .inl z
  · exact .inr (.inr z)⟩⟩
theorem Left.keeps (l : Left E G W H s) (k : ∀ a o, H a = some o → H' a = some o) : Left E G W H' s := ⟨fun a o h t => k a o (l.fr a o h t), l.tow.same fun a o _ e => k a o e, l.pl.same fun a o _ e => k a o e, fun i d h => let ⟨q, e, p⟩ := l.plc i d h; ⟨q, e, p.same (Fz.of_same k) fun a o _ e => k a o e⟩⟩
/-- from a later place -/
theorem Post.back {r : Option (Fl × S)} (z : Fz (Av G W) (Av G W') H H') (k : Wk W W') (p : Post E G W H Dn r) : Post E G W' H' Dn r := by
  match r, p with
  | some (.next, s'), p => exact fun W2 σ2 H2 r2 z2 k2 => p W2 σ2 H2 r2 (z.trans z2) (k.trans k2)
  | some (.brk, s'), p => exact fun W2 σ2 H2 r2 z2 k2 => p W2 σ2 H2 r2 (z.trans z2) (k.trans k2)
  | some (.cont, s'), p => exact fun W2 σ2 H2 r2 z2 k2 => p W2 σ2 H2 r2 (z.trans z2) (k.trans k2)
  | some (.ret d, s'), p => exact fun W2 v H2 l k2 => p W2 v H2 l (k.transR k2)
  | some (.retF d, s'), p => exact fun W2 v H2 l k2 => p W2 v H2 l (k.transR k2)
  | none, p => exact p
def sSeq (F1 F2 : Fs) : Fs := fun s => match F1 s with
  | some (.next, s1) => F2 s1
  | r => r
theorem snd_seq {t u : TS} {F1 F2 : Fs} (h1 : SndS E t F1) (h2 : SndS E u F2) : SndS E (tSeq t u) (sSeq F1 F2) := by
  intro G W σ H s Dn R p
  refine h1 G W σ H s { Dn with nx := u Dn } R ?_
  unfold sSeq at p
  match e : F1 s, p with
  | some (.next, s1), p =>
    intro W' σ' H' R' z k
    exact h2 G W' σ' H' s1 Dn R' (Post.back z k p)
  | some (.brk, s1), p => exact p
  | some (.cont, s1), p => exact p
  | some (.ret d, s1), p => exact p
  | some (.retF d, s1), p => exact p
  | none, p => exact p
end
section
variable {X : Cx} {st : Stmt} {rest a b : List Stmt} {F F1 F2 : Fs} {f : Fe} {e c : Expr} {pos : Pos}
def sNext : Fs := fun s => some (.next, s)
theorem vb_nil : VB X [] sNext := ⟨_, pss_nil, fun G W σ H s Dn R p => p W σ H R Fz.refl Wk.refl⟩
theorem vb_cons (h1 : VS X st F1) (h2 : VB X rest F2) : VB X (st :: rest) (sSeq F1 F2) := by
  obtain ⟨t, p, sn⟩ := h1.ex
  obtain ⟨u, q, sm⟩ := h2.ex
  exact ⟨_, pss_cons p q, snd_seq sn sm⟩
theorem vb_one (h1 : VS X st F) : VB X [st] F := by
  obtain ⟨t, p, sn⟩ := h1.ex
  exact ⟨_, pss_one p, sn⟩
theorem vs_pass : VS X (.Pass pos) sNext := ⟨_, ps_pass, fun G W σ H s Dn R p => p W σ H R Fz.refl Wk.refl⟩
def sBrk : Fs := fun s => some (.brk, s)
def sCont : Fs := fun s => some (.cont, s)
theorem vs_break : VS X (.Break pos) sBrk := ⟨_, ps_break, fun G W σ H s Dn R p => p W σ H R Fz.refl Wk.refl⟩
theorem vs_continue : VS X (.Continue pos) sCont := ⟨_, ps_continue, fun G W σ H s Dn R p => p W σ H R Fz.refl Wk.refl⟩
def sRet (f : Fe) : Fs := fun s => (f s).map fun (d, s1) => (.ret d, s1)
def sRetF (f : Fe) : Fs := fun s => (f s).map fun (d, s1) => (.retF d, s1)
theorem vs_ret (h : VE X e f) : VS X (.Return (some e) pos) (sRet f) := by
  obtain ⟨t, p, sn⟩ := h.ex
  refine ⟨_, ps_ret p, fun G W σ H s Dn R po => ?_⟩
  unfold sRet at po
  match e : f s, po with
  | none, po => exact po.elim
  | some (d, s1), po =>
    refine sn G W σ H s d s1 R e _ fun v H1 R1 z1 p1 => po W v H1 R1.left WkR.refl (p1.weak fun a z => ?_)
    rcases z with z | z
    · exact .inl z
    · exact .inr (.inr z)
theorem vs_retF (h : VF X e f) : VS X (.Return (some e) pos) (sRetF f) := by
  obtain ⟨t, p, sn⟩ := h.ex
  refine ⟨_, ps_ret p, fun G W σ H s Dn R po => ?_⟩
  unfold sRetF at po
  match e : f s, po with
  | none, po => exact po.elim
  | some (d, s1), po =>
    refine sn G W σ H s d s1 R e _ fun q H1 hn R1 z1 tp => po W q H1 R1.unbar.left WkR.refl (R.fresh0 hn) (fun z => R.free hn ?_) (tp.fz (Fz.weak fun a z => ?_) fun _ e => e)
    · rcases z with z | z
      · exact .inl z
      · exact .inr (.inr z)
    · rcases z with (z | z) | z
      · exact .inl (.inl z)
      · exact .inr (.inr z)
      · exact .inl (.inr z)
theorem vs_retN : VS X (.Return none pos) (sRet (eC .none)) := ⟨_, ps_retN, fun G W σ H s Dn R po => po W .non H R.left WkR.refl .non⟩
/-- return of an own list -/
def sRetO (i : Nat) : Fs := fun s => match s.rho[i]? with
  | some (.own d) => some (.retF d, s)
  | _ => none
theorem vs_retO (i : Nat) {x : Str} {p2 : Pos} (hN : X.N[i]? = some x := by rfl) (hv : Vis X.env.scope x := by first | exact Or.inl rfl | exact Or.inr (Or.inl rfl) | exact Or.inr (Or.inr rfl)) (hd : (x == ("__debug__" : Str)) = false := by decide +kernel)
    (hcd : (x == ("__classdict__" : Str)) = false := by decide +kernel) : VS X (.Return (some (.Name x p2)) pos) (sRetO i) := by
  refine ⟨_, ps_ret (pe_var hN hv hd hcd), fun G W σ H s Dn R po => ?_⟩
  unfold sRetO at po
  split at po
  · rename_i d e
    obtain ⟨a, e1, e2, tp⟩ := R.own i d e
    obtain ⟨h1, h2, h3, _⟩ := R.dom i a e1
    refine ⟨_, e2, po W a H R.left WkR.refl h1 ?_ (tp.fz (Fz.weak fun b z => ?_) fun _ e => e)⟩
    · rintro (z | z)
      · exact h3 z
      · exact h2 z
    · rcases z with (z | z) | z
      · exact .inl z
      · exact .inr (.inr z)
      · exact .inr (.inl ⟨i, by rw [z]; exact e1⟩)
  · exact po.elim
def sIf (c : Fe) (F1 F2 : Fs) : Fs := fun s => (c s).bind fun (x, s1) => match x with
  | .bool true => F1 s1
  | .bool false => F2 s1
  | _ => none
theorem vs_if (hc : VT X c f) (h1 : VB X a F1) (h2 : VB X b F2) : VS X (.If c a b pos) (sIf f F1 F2) := by
  obtain ⟨tc, pc, sc⟩ := hc.ex
  obtain ⟨t, p, sn⟩ := h1.ex
  obtain ⟨u, q, sm⟩ := h2.ex
  refine ⟨_, ps_if pc p q, fun G W σ H s Dn R po => ?_⟩
  unfold sIf at po
  match e : f s, po with
  | none, po => exact po.elim
  | some (.bool true, s1), po =>
    refine sc G W σ H s _ s1 R e _ fun H1 R1 z1 => ?_
    rw [if_pos rfl]
    exact sn G W σ H1 s1 Dn R1 (Post.back z1 Wk.refl po)
  | some (.bool false, s1), po =>
    refine sc G W σ H s _ s1 R e _ fun H1 R1 z1 => ?_
    rw [if_neg Bool.false_ne_true]
    exact sm G W σ H1 s1 Dn R1 (Post.back z1 Wk.refl po)
  | some (.none, s1), po => exact po.elim
  | some (.int _, s1), po => exact po.elim
  | some (.str _, s1), po => exact po.elim
  | some (.list _, s1), po => exact po.elim
  | some (.tuple _, s1), po => exact po.elim
  | some (.dict _, s1), po => exact po.elim
end
end Fx
-- Fx8
namespace Fx
open PySem PySem.Spec L2

/-! ### slots are stored -/
def S.put (s : S) (i : Nat) (c : C) : S := { s with rho := s.rho.set i c }
def Wt.del (W : Wt) (i : Nat) : Wt := { W with ow := fun j => if j = i then none else W.ow j }
def Wt.put (W : Wt) (i : Nat) (p : Addr) : Wt := { W with ow := fun j => if j = i then some p else W.ow j }
section
variable {E : Ev} {G : Cfg} {W : Wt} {H H' : Hp} {σ : L2.St} {s : S} {i : Nat} {v : V} {d : D}
theorem av_del (a : Addr) (h : Av G (W.del i) a) : Av G W a := by
  rcases h with h | ⟨j, h⟩ | h
  · exact .inl h
  · refine .inr (.inl ⟨j, ?_⟩)
    by_cases e : j = i
    · simp [Wt.del, e] at h
    · simpa [Wt.del, e] using h
  · exact .inr (.inr h)
theorem put_get {c c' : C} {j : Nat} (h : (s.put i c).rho[j]? = some c') : (j = i ∧ c' = c ∧ i < s.rho.length) ∨ (j ≠ i ∧ s.rho[j]? = some c') := by
  unfold S.put at h
  by_cases e : j = i
  · subst e
    have hl : j < s.rho.length := by
      by_cases q : j < s.rho.length
      · exact q
      · rw [List.getElem?_eq_none (by simpa using Nat.le_of_not_lt q)] at h; cases h
    simp only [List.getElem?_set_self hl] at h
    cases h
    exact .inl ⟨rfl, rfl, hl⟩
  · simp only [List.getElem?_set_ne (Ne.symm e)] at h
    exact .inr ⟨e, h⟩
theorem set_ne {j : Nat} (h : j ≠ i) : (σ.set i (some v))[j]? = σ[j]? := List.getElem?_set_ne (Ne.symm h)
/-- a slot gets a datum -/
theorem Rel.put (R : Rel E G W H σ s) (r : Rep E (Av G W) H v d) : Rel E G (W.del i) H (σ.set i (some v)) (s.put i (.val d)) where
  len := by simp [S.put, R.len]
  fr := R.fr
  val := fun j d' h => by
    rcases put_get h with ⟨rfl, e, hl⟩ | ⟨hj, h⟩
    · cases e
      exact ⟨v, by rw [R.len] at hl; simp [hl], r.weak av_del⟩
    · obtain ⟨u, e, q⟩ := R.val j d' h
      exact ⟨u, by rw [set_ne hj]; exact e, q.weak av_del⟩
  own := fun j d' h => by
    rcases put_get h with ⟨rfl, e, hl⟩ | ⟨hj, h⟩
    · cases e
    · obtain ⟨a, e1, e2, q⟩ := R.own j d' h
      exact ⟨a, by simpa [Wt.del, hj] using e1, by rw [set_ne hj]; exact e2, q.fz (Fz.weak av_del) fun _ e => e⟩
  dom := fun j a h => by
    by_cases hj : j = i
    · simp [Wt.del, hj] at h
    · have h' : W.ow j = some a := by simpa [Wt.del, hj] using h
      obtain ⟨h1, h2, h3, d', h4⟩ := R.dom j a h'
      exact ⟨h1, h2, h3, d', by simp [S.put, List.getElem?_set_ne (Ne.symm hj), h4]⟩
  inj := fun j k a h1 h2 => by
    by_cases e1 : j = i
    · simp [Wt.del, e1] at h1
    · by_cases e2 : k = i
      · simp [Wt.del, e2] at h2
      · exact R.inj j k a (by simpa [Wt.del, e1] using h1) (by simpa [Wt.del, e2] using h2)
  obj := R.obj
  tow := R.tow
  tnc := fun j h => by
    rcases put_get h with ⟨rfl, e, hl⟩ | ⟨hj, h⟩
    · cases e
    · obtain ⟨tl, rl, e1, e2⟩ := R.tnc j h
      exact ⟨tl, rl, e1, by rw [set_ne hj]; exact e2⟩
  rwc := fun j h => by
    rcases put_get h with ⟨rfl, e, hl⟩ | ⟨hj, h⟩
    · cases e
    · obtain ⟨tl, rl, e1, e2⟩ := R.rwc j h
      exact ⟨tl, rl, e1, by rw [set_ne hj]; exact e2⟩
  noc := fun j h => by
    rcases put_get h with ⟨rfl, e, hl⟩ | ⟨hj, h⟩
    · cases e
    · rw [set_ne hj]; exact R.noc j h
  ptc := fun j h => by
    rcases put_get h with ⟨rfl, e, hl⟩ | ⟨hj, h⟩
    · cases e
    · rw [set_ne hj]; exact R.ptc j h
  pl := R.pl.ow
  plc := fun j d' h => by
    rcases put_get h with ⟨rfl, e, hl⟩ | ⟨hj, h⟩
    · cases e
    · exact (R.plc j d' h).step (Fz.weak av_del) (fun _ _ _ e => e) (set_ne hj)
theorem av_put {p : Addr} (a : Addr) (h : Av G (W.put i p) a) : Av (G.bar p) W a := by
  rcases h with h | ⟨j, h⟩ | h
  · exact .inl (.inl h)
  · by_cases e : j = i
    · simp [Wt.put, e] at h
      exact .inl (.inr h.symm)
    · exact .inr (.inl ⟨j, by simpa [Wt.put, e] using h⟩)
  · exact .inr (.inr h)
/-- a slot gets an own object -/
theorem Rel.putF {p : Addr} (R : Rel E (G.bar p) W H σ s) (hi : i < σ.length) (h0 : G.H0 p = none) (hno : ¬ G.O p) (hnt : ¬ TownA W p) (t : Top E (Av (G.bar p) W) H p d) : Rel E G (W.put i p) H (σ.set i (some (.ref p))) (s.put i (.own d)) where
  len := by simp [S.put, R.len]
  fr := R.fr
  val := fun j d' h => by
    rcases put_get h with ⟨rfl, e, hl⟩ | ⟨hj, h⟩
    · cases e
    · obtain ⟨u, e, q⟩ := R.val j d' h
      exact ⟨u, by rw [set_ne hj]; exact e, q.weak av_put⟩
  own := fun j d' h => by
    rcases put_get h with ⟨rfl, e, hl⟩ | ⟨hj, h⟩
    · cases e
      exact ⟨p, by simp [Wt.put], by simp [hi], t.fz (Fz.weak av_put) fun _ e => e⟩
    · obtain ⟨a, e1, e2, q⟩ := R.own j d' h
      exact ⟨a, by simpa [Wt.put, hj] using e1, by rw [set_ne hj]; exact e2, q.fz (Fz.weak av_put) fun _ e => e⟩
  dom := fun j a h => by
    by_cases hj : j = i
    · subst hj
      have e : p = a := by simpa [Wt.put] using h
      subst e
      exact ⟨h0, hnt, hno, d, by
        have : j < s.rho.length := by rw [R.len]; exact hi
        simp [S.put, this]⟩
    · have h' : W.ow j = some a := by simpa [Wt.put, hj] using h
      obtain ⟨h1, h2, h3, d', h4⟩ := R.dom j a h'
      exact ⟨h1, h2, fun z => h3 (.inl z), d', by simp [S.put, List.getElem?_set_ne (Ne.symm hj), h4]⟩
  inj := fun j k a h1 h2 => by
    have ne : ∀ l, W.ow l ≠ some p := fun l e => (R.dom l p e).2.2.1 (.inr rfl)
    by_cases e1 : j = i
    · by_cases e2 : k = i
      · rw [e1, e2]
      · have q : p = a := by simpa [Wt.put, e1] using h1
        subst q
        exact absurd (by simpa [Wt.put, e2] using h2) (ne k)
    · by_cases e2 : k = i
      · have q : p = a := by simpa [Wt.put, e2] using h2
        subst q
        exact absurd (by simpa [Wt.put, e1] using h1) (ne j)
      · exact R.inj j k a (by simpa [Wt.put, e1] using h1) (by simpa [Wt.put, e2] using h2)
  obj := fun a h => R.obj a (.inl h)
  tow := R.tow
  tnc := fun j h => by
    rcases put_get h with ⟨rfl, e, hl⟩ | ⟨hj, h⟩
    · cases e
    · obtain ⟨tl, rl, e1, e2⟩ := R.tnc j h
      exact ⟨tl, rl, e1, by rw [set_ne hj]; exact e2⟩
  rwc := fun j h => by
    rcases put_get h with ⟨rfl, e, hl⟩ | ⟨hj, h⟩
    · cases e
    · obtain ⟨tl, rl, e1, e2⟩ := R.rwc j h
      exact ⟨tl, rl, e1, by rw [set_ne hj]; exact e2⟩
  noc := fun j h => by
    rcases put_get h with ⟨rfl, e, hl⟩ | ⟨hj, h⟩
    · cases e
    · rw [set_ne hj]; exact R.noc j h
  ptc := fun j h => by
    rcases put_get h with ⟨rfl, e, hl⟩ | ⟨hj, h⟩
    · cases e
    · rw [set_ne hj]; exact R.ptc j h
  pl := PlOk.ow (W := W) (R.pl)
  plc := fun j d' h => by
    rcases put_get h with ⟨rfl, e, hl⟩ | ⟨hj, h⟩
    · cases e
    · exact (R.plc j d' h).step (Fz.weak av_put) (fun _ _ _ e => e) (set_ne hj)
/-- an own object is changed -/
theorem Rel.turn {a : Addr} {o : HO} {d' : D} (R : Rel E G W H σ s) (hs : s.rho[i]? = some (.own d)) (hw : W.ow i = some a) (t : Top E (Av G W) (upd H a o) a d') : Rel E G W (upd H a o) σ (s.put i (.own d')) := by
  have av : Av G W a := .inr (.inl ⟨i, hw⟩)
  have fz : Fz (Av G W) (Av G W) H (upd H a o) := fun b u n e => ⟨n, by rw [upd_ne (fun z => n (by rw [z]; exact av))]; exact e⟩
  obtain ⟨d0, d1, d2, _⟩ := R.dom i a hw
  have hi : i < s.rho.length := (List.getElem?_eq_some_iff.mp hs).1
  exact {
    len := by simp [S.put, R.len]
    fr := fun b u e t => by
      rw [upd_ne (fun z => by rw [z, d0] at e; cases e)]
      exact R.fr b u e t
    val := fun j d'' h => by
      rcases put_get h with ⟨rfl, e, hl⟩ | ⟨hj, h⟩
      · cases e
      · obtain ⟨u, e, q⟩ := R.val j d'' h
        exact ⟨u, e, q.fz fz⟩
    own := fun j d'' h => by
      rcases put_get h with ⟨rfl, e, hl⟩ | ⟨hj, h⟩
      · cases e
        obtain ⟨b, e1, e2, _⟩ := R.own _ d hs
        rw [hw] at e1; cases e1
        exact ⟨a, hw, e2, t⟩
      · obtain ⟨b, e1, e2, q⟩ := R.own j d'' h
        refine ⟨b, e1, e2, q.fz fz fun u e => ?_⟩
        rw [upd_ne (fun z => hj (R.inj j i a (by rw [← z]; exact e1) hw))]
        exact e
    dom := fun j b h => by
      obtain ⟨h1, h2, h3, d'', h4⟩ := R.dom j b h
      refine ⟨h1, h2, h3, ?_⟩
      by_cases hj : j = i
      · subst hj
        exact ⟨d', by simp [S.put, hi]⟩
      · exact ⟨d'', by simp [S.put, List.getElem?_set_ne (Ne.symm hj), h4]⟩
    inj := R.inj
    obj := fun b h => by
      by_cases e : b = a
      · rw [e] at h; exact absurd h d2
      · rw [upd_ne e]; exact R.obj b h
    tow := R.tow.same fun b u h e => by
      rw [upd_ne (fun z => d1 (by rw [← z]; exact h))]
      exact e
    tnc := fun j h => by
      rcases put_get h with ⟨rfl, e, hl⟩ | ⟨hj, h⟩
      · cases e
      · exact R.tnc j h
    rwc := fun j h => by
      rcases put_get h with ⟨rfl, e, hl⟩ | ⟨hj, h⟩
      · cases e
      · exact R.rwc j h
    noc := fun j h => by
      rcases put_get h with ⟨rfl, e, hl⟩ | ⟨hj, h⟩
      · cases e
      · exact R.noc j h
    ptc := fun j h => by
      rcases put_get h with ⟨rfl, e, hl⟩ | ⟨hj, h⟩
      · cases e
      · exact R.ptc j h
    pl := R.pl.same fun b u h e => by
      rw [upd_ne (fun z => d1 (by rw [← z]; exact h))]
      exact e
    plc := fun j d' h => by
      rcases put_get h with ⟨rfl, e, hl⟩ | ⟨hj, h⟩
      · cases e
      · exact (R.plc j d' h).step fz fun b u h e => by
          rw [upd_ne (fun z => d1 (by rw [← z]; exact h))]
          exact e }
theorem Fz.turn {a : Addr} {o : HO} (hw : Av G W a) : Fz (Av G W) (Av G W) H (upd H a o) := fun b u n e => ⟨n, by rw [upd_ne (fun z => n (by rw [z]; exact hw))]; exact e⟩
theorem fz_del : Fz (Av G W) (Av G (W.del i)) H H := Fz.weak av_del
theorem wk_del : Wk W (W.del i) := ⟨fun _ h => h, fun _ h => h⟩
theorem wk_put {p : Addr} : Wk W (W.put i p) := ⟨fun _ h => h, fun _ h => h⟩
end
/-! ### assignments -/
def sSet (i : Nat) (f : Fe) : Fs := fun s => (f s).map fun (d, s1) => (.next, s1.put i (.val d))
def sSetF (i : Nat) (f : Fe) : Fs := fun s => (f s).bind fun (d, s1) => if i < s1.rho.length then some (.next, s1.put i (.own d)) else none
theorem snd_set {E : Ev} {t : TE} {f : Fe} {i : Nat} (h : SndE E t f) : SndS E (tAsg t (gName i)) (sSet i f) := by
  intro G W σ H s Dn R po
  unfold sSet at po
  match e : f s, po with
  | none, po => exact po.elim
  | some (d, s1), po => exact h G W σ H s d s1 R e _ fun v H1 R1 z1 p1 => po _ _ H1 (R1.put p1) (z1.trans fz_del) wk_del
theorem snd_setF {E : Ev} {t : TE} {f : Fe} {i : Nat} (h : SndF E t f) : SndS E (tAsg t (gName i)) (sSetF i f) := by
  intro G W σ H s Dn R po
  unfold sSetF at po
  match e : f s, po with
  | none, po => exact po.elim
  | some (d, s1), po =>
    dsimp only [Option.bind] at po
    split at po
    · rename_i hi
      refine h G W σ H s d s1 R e _ fun p H1 hn R1 z1 t1 => po _ _ H1 (R1.putF (by rw [← R1.len]; exact hi) (R.fresh0 hn) (fun z => R.free hn (.inl z)) (fun z => R.free hn (.inr (.inr z))) t1) ?_ wk_put
      exact fun a u n e => ⟨fun z => (z1 a u n e).1 (av_put a z), (z1 a u n e).2⟩
    · exact po.elim
section
variable {X : Cx} {i : Nat} {x : Str} {e : Expr} {f : Fe} {pos p' : Pos}
theorem vs_set (h : VE X e f) (hN : X.N.Nodup) (hi : X.N[i]? = some x := by rfl) (hx : Loc X.env.scope x := by first | exact Or.inl rfl | exact Or.inr rfl) (hs : swapsWith e (some (.Name x p')) pos.line X.env = pure false := by rfl) (hf : X.fn x = true ∨ X.env.scope.names.lookup x = some .local := by first | exact .inl rfl | exact .inr rfl) :
    VS X (.Assign [.Name x p'] e pos) (sSet i f) := by
  obtain ⟨t, p, sn⟩ := h.ex
  exact ⟨_, ps_set hN hi hx p hs hf, snd_set sn⟩
theorem vs_setF (h : VF X e f) (hN : X.N.Nodup) (hi : X.N[i]? = some x := by rfl) (hx : Loc X.env.scope x := by first | exact Or.inl rfl | exact Or.inr rfl) (hs : swapsWith e (some (.Name x p')) pos.line X.env = pure false := by rfl) (hf : X.fn x = true ∨ X.env.scope.names.lookup x = some .local := by first | exact .inl rfl | exact .inr rfl) :
    VS X (.Assign [.Name x p'] e pos) (sSetF i f) := by
  obtain ⟨t, p, sn⟩ := h.ex
  exact ⟨_, ps_set hN hi hx p hs hf, snd_setF sn⟩
/-- an expression alone -/
def sExpr (f : Fe) : Fs := fun s => (f s).map fun (_, s1) => (.next, s1)
theorem vs_expr (h : VE X e f) (hs : swapsWith e none pos.line X.env = pure false := by rfl) : VS X (.Expr e pos) (sExpr f) := by
  obtain ⟨t, p, sn⟩ := h.ex
  refine ⟨_, ps_expr p hs, fun G W σ H s Dn R po => ?_⟩
  unfold sExpr at po
  match e : f s, po with
  | none, po => exact po.elim
  | some (d, s1), po => exact sn G W σ H s d s1 R e _ fun v H1 R1 z1 p1 => po W σ H1 R1 z1 Wk.refl
/-- x op= e, of a number -/
def sAug (i : Nat) (g : D → D → Option D) (f : Fe) : Fs := fun s => match s.rho[i]? with
  | some (.val d) => (f s).bind fun (y, s1) => (g d y).map fun z => (.next, s1.put i (.val z))
  | _ => none
def addI : D → D → Option D := intD fun a b => some (.int (a + b))
theorem vs_augI (h : VE X e f) (hN : X.N.Nodup) (hi : X.N[i]? = some x := by rfl) (hx : Loc X.env.scope x := by first | exact Or.inl rfl | exact Or.inr rfl) (hf : X.fn x = true ∨ X.env.scope.names.lookup x = some .local := by first | exact .inl rfl | exact .inr rfl) :
    VS X (.AugAssign (.Name x p') .Add e pos) (sAug i addI f) := by
  obtain ⟨t, p, sn⟩ := h.ex
  refine ⟨_, ps_aug hN hi hx p ip_add hf, fun G W σ H s Dn R po => ?_⟩
  unfold sAug at po
  split at po
  · rename_i d e1
    obtain ⟨v, e2, r⟩ := R.val i d e1
    match e : f s, po with
    | none, po => exact po.elim
    | some (y, s1), po =>
      dsimp only [Option.bind] at po
      refine ⟨v, e2, sn G W σ H s y s1 R e _ fun u H1 R1 z1 p1 => ?_⟩
      cases r <;> cases p1 <;> simp only [addI, intD] at po
      all_goals first | (exact po.elim) | skip
      exact ⟨_, _, rfl, rfl, po _ _ H1 (R1.put (.int _)) (z1.trans fz_del) wk_del⟩
  · exact po.elim
/-! ### own lists -/
/-- the own object in slot i is held from now on: a datum -/
def S.frz (s : S) (i : Nat) : Option S := match s.rho[i]? with
  | some (.own d) => some (s.put i (.val d))
  | _ => none
theorem set_self {σ : L2.St} {i : Nat} {v : V} (h : σ[i]? = some (some v)) : σ.set i (some v) = σ := by
  apply List.ext_getElem?
  intro j
  by_cases e : j = i
  · subst e
    have hl : j < σ.length := (List.getElem?_eq_some_iff.mp h).1
    rw [List.getElem?_set_self hl, h]
  · rw [List.getElem?_set_ne (Ne.symm e)]
theorem Lkd.ne {H H' : Hp} {a b : Addr} {d : D} {u : HO} (l : Lkd H a H' d) (hb : b ≠ a) (e : H b = some u) : H' b = some u := by
  cases d with
  | list ds => cases (show H' = H from l); exact e
  | dict kvs => obtain ⟨o, v, _, _, rfl⟩ := l; rw [upd_ne hb]; exact e
  | _ => exact l.elim
theorem Rel.freeze {E : Ev} {G : Cfg} {W : Wt} {H H' : Hp} {σ : L2.St} {s : S} {d : D} {a : Addr} (R : Rel E G W H σ s) (h : s.rho[i]? = some (.own d)) (e1 : W.ow i = some a) (l : Lkd H a H' d) : Rel E G (W.del i) H' σ (s.put i (.val d)) ∧ Fz (Av G W) (Av G (W.del i)) H H' := by
  obtain ⟨a', e1', e2, t⟩ := R.own i d h
  rw [e1] at e1'; cases e1'
  obtain ⟨d0, d1, d2, _⟩ := R.dom i a e1
  have na : ¬ Av G (W.del i) a := by
    rintro (z | ⟨j, z⟩ | z)
    · exact d2 z
    · by_cases e : j = i
      · simp [Wt.del, e] at z
      · exact e (R.inj j i a (by simpa [Wt.del, e] using z) e1)
    · exact d1 z
  have av : Av G W a := .inr (.inl ⟨i, e1⟩)
  have f : Fz (Av G W) (Av G (W.del i)) H H' := fun b u n e => ⟨fun z => n (av_del b z), l.ne (fun z => n (by rw [z]; exact av)) e⟩
  refine ⟨?_, f⟩
  have R' : Rel E G (W.del i) H' (σ.set i (some (.ref a))) (s.put i (.val d)) := {
    len := by simp [S.put, R.len]
    fr := fun b u e t => l.ne (fun z => by rw [z, d0] at e; cases e) (R.fr b u e t)
    val := fun j d' h => by
      rcases put_get h with ⟨rfl, e, hl⟩ | ⟨hj, h⟩
      · cases e
        exact ⟨_, by rw [R.len] at hl; simp only [List.getElem?_set_self hl], t.lock na (fun x z => av_del x z) av l⟩
      · obtain ⟨u, e, q⟩ := R.val j d' h
        exact ⟨u, by rw [set_ne hj]; exact e, q.fz f⟩
    own := fun j d' h => by
      rcases put_get h with ⟨rfl, e, hl⟩ | ⟨hj, h⟩
      · cases e
      · obtain ⟨b, e3, e4, q⟩ := R.own j d' h
        exact ⟨b, by simpa [Wt.del, hj] using e3, by rw [set_ne hj]; exact e4, q.fz f fun u e => l.ne (fun z => hj (R.inj j i a (by rw [← z]; exact e3) e1)) e⟩
    dom := fun j a h => by
      by_cases hj : j = i
      · simp [Wt.del, hj] at h
      · have h' : W.ow j = some a := by simpa [Wt.del, hj] using h
        obtain ⟨h1, h2, h3, d', h4⟩ := R.dom j a h'
        exact ⟨h1, h2, h3, d', by simp [S.put, List.getElem?_set_ne (Ne.symm hj), h4]⟩
    inj := fun j k a h1 h2 => by
      by_cases e1 : j = i
      · simp [Wt.del, e1] at h1
      · by_cases e2 : k = i
        · simp [Wt.del, e2] at h2
        · exact R.inj j k a (by simpa [Wt.del, e1] using h1) (by simpa [Wt.del, e2] using h2)
    obj := fun b h => by
      obtain ⟨o, e, n⟩ := R.obj b h
      exact ⟨o, l.ne (fun z => d2 (by rw [← z]; exact h)) e, n⟩
    tow := R.tow.same fun b u h e => l.ne (fun z => d1 (by rw [← z]; exact h)) e
    tnc := fun j h => by
      rcases put_get h with ⟨rfl, e, hl⟩ | ⟨hj, h⟩
      · cases e
      · obtain ⟨tl, rl, e1, e2⟩ := R.tnc j h
        exact ⟨tl, rl, e1, by rw [set_ne hj]; exact e2⟩
    rwc := fun j h => by
      rcases put_get h with ⟨rfl, e, hl⟩ | ⟨hj, h⟩
      · cases e
      · obtain ⟨tl, rl, e1, e2⟩ := R.rwc j h
        exact ⟨tl, rl, e1, by rw [set_ne hj]; exact e2⟩
    noc := fun j h => by
      rcases put_get h with ⟨rfl, e, hl⟩ | ⟨hj, h⟩
      · cases e
      · rw [set_ne hj]; exact R.noc j h
    ptc := fun j h => by
      rcases put_get h with ⟨rfl, e, hl⟩ | ⟨hj, h⟩
      · cases e
      · rw [set_ne hj]; exact R.ptc j h
    pl := PlOk.ow (W := W) (R.pl.same fun b u h e => l.ne (fun z => d1 (by rw [← z]; exact h)) e)
    plc := fun j d' h => by
      rcases put_get h with ⟨rfl, e, hl⟩ | ⟨hj, h⟩
      · cases e
      · exact (R.plc j d' h).step f (fun b u h e => l.ne (fun z => d1 (by rw [← z]; exact h)) e) (set_ne hj) }
  rw [set_self e2] at R'
  exact R'
def sFrz (i : Nat) (F : Fs) : Fs := fun s => (s.frz i).bind F
/-- a thing may be locked first -/
def tLks (t : TS) : TS := fun Dn σ H => t Dn σ H ∨ ∃ a u, H a = some u ∧ Mut (some u) ∧ ∀ o, t Dn σ (upd H a (.frz o u))
theorem ps_lks {st : Stmt} {t : TS} (h : PS X st t) : PS X st (tLks t) := by
  refine ⟨fun pins s σ H Dn I q => ?_⟩
  rcases q with q | ⟨a, u, e, mu, q⟩
  · exact h.run pins s σ H Dn I q
  · obtain ⟨od, I2⟩ := I.lock e mu
    exact h.run pins s σ _ Dn I2 (q od)
theorem vs_frz (i : Nat) {st : Stmt} {F : Fs} (h : VS X st F) : VS X st (sFrz i F) := by
  obtain ⟨t, p, sn⟩ := h.ex
  refine ⟨_, ps_lks p, fun G W σ H s Dn R po => ?_⟩
  unfold sFrz S.frz at po
  split at po
  · rename_i d e
    obtain ⟨a, e1, _, tp⟩ := R.own i d e
    obtain ⟨u, e2, _, mu⟩ := tp.there
    have fin : ∀ H', Lkd H a H' d → t Dn σ H' := fun H' l => by
      obtain ⟨R', z⟩ := R.freeze e e1 l
      exact sn G (W.del i) σ H' _ Dn R' (Post.back z wk_del po)
    cases d with
    | list ds => exact .inl (fin H rfl)
    | dict kvs => exact .inr ⟨a, u, e2, mu, fun o => fin _ ⟨o, u, e2, mu, rfl⟩⟩
    | _ => exact tp.elim
  · exact po.elim
theorem line_lt {n : Nat} (h : n < 100000) : n < sizeLine := Nat.lt_of_lt_of_le h (by decide)
theorem own_there {E : Ev} {G : Cfg} {W : Wt} {H H1 : Hp} {σ : L2.St} {s s1 : S} {d : D} (R : Rel E G W H σ s) (R1 : Rel E G W H1 σ s1) (h : s1.rho[i]? = some (.own d)) : ∃ a d0, W.ow i = some a ∧ σ[i]? = some (some (.ref a)) ∧ s.rho[i]? = some (.own d0) ∧ Top E (Av G W) H a d0 ∧ Top E (Av G W) H1 a d := by
  obtain ⟨a, e1, e2, t⟩ := R1.own i d h
  obtain ⟨_, _, _, d0, h0⟩ := R.dom i a e1
  obtain ⟨b, e3, e4, t0⟩ := R.own i d0 h0
  rw [e1] at e3; cases e3
  exact ⟨a, d0, e1, e2, h0, t0, t⟩
theorem ty_list {E : Ev} {A : Addr → Prop} {H : Hp} {a : Addr} {ds : List D} (t : Top E A H a (.list ds)) : tyV E.K "list" (.ref a) H := by
  obtain ⟨xs, e, _⟩ := t
  exact .inl ⟨rfl, _, SqL.of e⟩
end
end Fx
-- Fx9
namespace Fx
open PySem PySem.Spec L2
def S.ownL (s : S) (i : Nat) : Option (List D) := match s.rho[i]? with
  | some (.own (.list ds)) => some ds
  | _ => none
theorem ownL_some {s : S} {i : Nat} {ds : List D} (h : s.ownL i = some ds) : s.rho[i]? = some (.own (.list ds)) := by
  unfold S.ownL at h
  split at h
  · rename_i e; cases h; exact e
  · cases h
section
variable {X : Cx} {i : Nat} {x : Str} {e a b : Expr} {f f1 f2 : Fe} {pos p' q' : Pos}
structure NM (X : Cx) (o : Expr) (name : Str) (e : Expr) (es : List Expr) (apos cpos : Pos) : Prop where
  hbase : attributeBase o name X.env (eval o X.env) = eval o X.env
  hfew : ((backTo cpos (starEach (e :: es) X.env)).all (fun x => !x.1) && (backToKw cpos (keywordEach [] X.env)).all (fun x => x.1.isSome)
      && decide ((e :: es).length + ([] : List Keyword).length + (if ([] : List Keyword).isEmpty then 0 else 1) < 30)) = true
  hline : (apos.endLine == cpos.line) = true
  hs : starEach (e :: es) X.env = (false, eval e X.env) :: starEach es X.env
  hplain : (backTo cpos (starEach es X.env)).any (·.1) = false
/-- a name of the def that is read -/
structure NV (X : Cx) (i : Nat) (x : Str) : Prop where
  hN : X.N[i]? = some x
  hv : Vis X.env.scope x
  hd : (x == ("__debug__" : Str)) = false
  hcd : (x == ("__classdict__" : Str)) = false
/-- xs.append(e) -/
def sApp (i : Nat) (f : Fe) : Fs := fun s => (s.ownL i).bind fun _ => (f s).bind fun (d, s1) => (s1.ownL i).bind fun ds => if ds.length < 100000 then some (.next, s1.put i (.own (.list (ds ++ [d])))) else none
theorem vs_app (i : Nat) (nv : NV X i x) (h : VE X e f) (nm : NM X (.Name x p') "append" e [] pos q') (hs : swapsWith (.Call (.Attribute (.Name x p') "append" pos) [e] [] q') none q'.line X.env = pure false) : VS X (.Expr (.Call (.Attribute (.Name x p') "append" pos) [e] [] q') q') (sApp i f) := by
  obtain ⟨t, p, sn⟩ := h.ex
  refine ⟨_, ps_expr (pe_bm PySem.F.plainAttrs_list PySem.F.slot_list_append PySem.F.type_list_append mt_append (pe_var nv.hN nv.hv nv.hd nv.hcd) (pa_cons p pa_nil nm.hs) nm.hbase nm.hfew nm.hline nm.hs nm.hplain) hs, fun G W σ H s Dn R po => ?_⟩
  unfold sApp at po
  match e0 : s.ownL i, po with
  | none, po => exact po.elim
  | some ds0, po =>
    dsimp only [Option.bind] at po
    match e1 : f s, po with
    | none, po => exact po.elim
    | some (d, s1), po =>
      dsimp only [Option.bind] at po
      match e2 : s1.ownL i, po with
      | none, po => exact po.elim
      | some ds, po =>
        dsimp only [Option.bind] at po
        split at po
        · rename_i hl
          obtain ⟨a, w1, w2, t0⟩ := R.own i _ (ownL_some e0)
          refine ⟨_, w2, ty_list t0, sn G W σ H s d s1 R e1 _ fun v H1 R1 z1 p1 => ?_⟩
          obtain ⟨a', w1', w2', xs, hx, hr⟩ := R1.own i _ (ownL_some e2)
          rw [w1] at w1'; cases w1'
          refine ⟨a, xs, v, rfl, rfl, hx, line_lt (by rw [hr.length]; exact hl), ?_⟩
          have av : Av G W a := .inr (.inl ⟨i, w1⟩)
          exact po W σ _ (R1.turn (ownL_some e2) w1 ⟨_, upd_same, (hr.append (.cons p1 .nil)).fz (Fz.turn av)⟩) (z1.trans (Fz.turn av)) Wk.refl
        · exact po.elim
/-- xs += e, an own list -/
def sExt (i : Nat) (f : Fe) : Fs := fun s => (s.ownL i).bind fun _ => (f s).bind fun (d, s1) => (s1.ownL i).bind fun ds => match d with
  | .list es => if ds.length + es.length ≤ 100000 then some (.next, s1.put i (.own (.list (ds ++ es)))) else none
  | _ => none
theorem vs_ext (i : Nat) (h : VE X e f) (hN : X.N.Nodup) (hi : X.N[i]? = some x := by rfl) (hx : Loc X.env.scope x := by first | exact Or.inl rfl | exact Or.inr rfl) (hf : X.fn x = true ∨ X.env.scope.names.lookup x = some .local := by first | exact .inl rfl | exact .inr rfl) :
    VS X (.AugAssign (.Name x p') .Add e pos) (sExt i f) := by
  obtain ⟨t, p, sn⟩ := h.ex
  refine ⟨_, ps_aug hN hi hx p (ti := rExt2) (fun pins s σ H x y v u Q I r1 r2 h => iop_ext pins s σ H x y v u Q I r1 r2 h) hf, fun G W σ H s Dn R po => ?_⟩
  unfold sExt at po
  match e0 : s.ownL i, po with
  | none, po => exact po.elim
  | some ds0, po =>
    dsimp only [Option.bind] at po
    match e1 : f s, po with
    | none, po => exact po.elim
    | some (d, s1), po =>
      dsimp only [Option.bind] at po
      match e2 : s1.ownL i, po with
      | none, po => exact po.elim
      | some ds, po =>
        dsimp only [Option.bind] at po
        split at po
        · split at po
          · rename_i es hl
            obtain ⟨a, w1, w2, t0⟩ := R.own i _ (ownL_some e0)
            refine ⟨_, w2, sn G W σ H s _ s1 R e1 _ fun v H1 R1 z1 p1 => ?_⟩
            obtain ⟨a', w1', w2', xs, hx, hr⟩ := R1.own i _ (ownL_some e2)
            rw [w1] at w1'; cases w1'
            cases p1 with
            | lst n1 h1 r1 =>
              rename_i b ys
              refine ⟨a, b, xs, ys, rfl, rfl, hx, h1, Nat.le_trans (by rw [hr.length, r1.length]; exact hl) (by decide), ?_⟩
              have av : Av G W a := .inr (.inl ⟨i, w1⟩)
              show Dn.nx (σ.set i (some (.ref a))) _
              rw [set_self w2]
              exact po W σ _ (R1.turn (ownL_some e2) w1 ⟨_, upd_same, (hr.append r1).fz (Fz.turn av)⟩) (z1.trans (Fz.turn av)) Wk.refl
          · exact po.elim
        · exact po.elim
/-- what is read off an own list: no object -/
def eOwnS (i : Nat) (g : D → Option D) : Fe := fun s => match s.rho[i]? with
  | some (.own d) => (g d).map fun z => (z, s)
  | _ => none
/-- the own object as a datum, the others barred -/
theorem Rel.asRep {E : Ev} {G : Cfg} {W : Wt} {H : Hp} {σ : L2.St} {s : S} {d : D} {a : Addr} (R : Rel E G W H σ s) (h : s.rho[i]? = some (.own d)) (hw : W.ow i = some a) (hd : ∃ ds, d = .list ds) : Rep E (Av G (W.del i)) H (.ref a) d := by
  obtain ⟨ds, rfl⟩ := hd
  obtain ⟨a', e1, e2, t⟩ := R.own i _ h
  rw [hw] at e1; cases e1
  refine t.rep ?_ fun x z => av_del x z
  rintro (z | ⟨j, z⟩ | z)
  · exact (R.dom i a hw).2.2.1 z
  · by_cases e : j = i
    · simp [Wt.del, e] at z
    · exact e (R.inj j i a (by simpa [Wt.del, e] using z) hw)
  · exact (R.dom i a hw).2.1 z
/-- len(xs) -/
def len1 (d : D) : Option D := lenD [d]
theorem ve_lenO (i : Nat) (nv : NV X i x) (hg : Gl X "len") (hm : X.mg "len" = none) (ns : NS X (.Name x p') [] pos) : VE X (.Call (.Name "len" q') [.Name x p'] [] pos) (eOwnS i len1) := by
  refine ⟨_, pe_callB call_len_seq hg hm PySem.boot_len (pa_cons (pe_var nv.hN nv.hv nv.hd nv.hcd) pa_nil ns.he) (by decide) (by decide) ns.he ns.hpl, ?_⟩
  intro G W σ H s d s' R hf Q hq
  unfold eOwnS at hf
  split at hf
  · rename_i d' e
    simp only [Option.map_eq_some_iff] at hf
    obtain ⟨z, h1, h2⟩ := hf
    cases h2
    obtain ⟨a, w1, w2, t⟩ := R.own i _ e
    refine ⟨_, w2, ?_⟩
    cases d' with
    | list ds =>
      obtain ⟨xs, hx, hr⟩ := t
      cases h1
      exact ⟨a, xs, rfl, .inl (SqL.of hx), by rw [hr.length]; exact hq _ H R Fz.refl (.int _)⟩
    | dict _ => cases h1
    | _ => exact t.elim
  · cases hf
/-- xs[e], an own list -/
def eIxO (i : Nat) (f : Fe) : Fe := fun s => (s.ownL i).bind fun _ => (f s).bind fun (y, s1) => (s1.ownL i).bind fun ds => (ixD (.list ds) y).map fun z => (z, s1)
theorem ve_ixO (i : Nat) (nv : NV X i x) (hb : VE X b f) (hs : PlainIx b := by exact fun _ _ => rfl) : VE X (.Subscript (.Name x p') b pos) (eIxO i f) := by
  obtain ⟨t, p, sn⟩ := hb.ex
  refine ⟨_, pe_ix ix_list (pe_var nv.hN nv.hv nv.hd nv.hcd) p hs, ?_⟩
  intro G W σ H s d s' R hf Q hq
  unfold eIxO at hf
  simp only [Option.bind_eq_some_iff, Option.map_eq_some_iff] at hf
  obtain ⟨ds0, e0, ⟨y, s1⟩, e1, ds, e2, z, e3, e4⟩ := hf
  cases e4
  obtain ⟨a, w1, w2, t0⟩ := R.own i _ (ownL_some e0)
  refine ⟨_, w2, sn G W σ H s y _ R e1 _ fun v H1 R1 z1 p1 => ?_⟩
  obtain ⟨a', w1', w2', xs, hx, hr⟩ := R1.own i _ (ownL_some e2)
  rw [w1] at w1'; cases w1'
  cases p1 <;> simp only [ixD] at e3
  all_goals first | (cases e3; done) | skip
  obtain ⟨u, h1, h2⟩ := hr.atI e3
  exact ⟨a, xs, _, u, rfl, rfl, SqL.of hx, h1, hq u H1 R1 z1 h2⟩
/-- a comparison whose left side is an own object, its value no object -/
def S.ownD (s : S) (i : Nat) : Option D := match s.rho[i]? with
  | some (.own (.list ds)) => some (.list ds)
  | _ => none
theorem ownD_list {s : S} {d : D} (h : s.ownD i = some d) : ∃ ds, d = .list ds := by
  unfold S.ownD at h
  split at h
  · cases h; exact ⟨_, rfl⟩
  · cases h
theorem ownD_some {s : S} {d : D} (h : s.ownD i = some d) : s.rho[i]? = some (.own d) := by
  unfold S.ownD at h
  split at h
  · rename_i e; cases h; exact e
  · cases h
def eCmpO (i : Nat) (g : D → D → Option D) (f : Fe) : Fe := fun s => (s.ownD i).bind fun _ => (f s).bind fun (y, s1) => (s1.ownD i).bind fun d => (g d y).map fun z => (z, s1)
theorem snd_cmpO {E : Ev} {r : R2} {g : D → D → Option D} {t : TE} (sn : SndE E t f) (hr : SndRS E r g) : SndE E (tOp r (tVar i) t) (eCmpO i g f) := by
  intro G W σ H s d s' R hf Q hq
  unfold eCmpO at hf
  simp only [Option.bind_eq_some_iff, Option.map_eq_some_iff] at hf
  obtain ⟨d0, e0, ⟨y, s1⟩, e1, d1, e2, z, e3, e4⟩ := hf
  cases e4
  obtain ⟨a, w1, w2, t0⟩ := R.own i _ (ownD_some e0)
  refine ⟨_, w2, sn G W σ H s y _ R e1 _ fun v H1 R1 z1 p1 => ?_⟩
  exact hr _ H1 (.ref a) v d1 y d (R1.asRep (ownD_some e2) w1 (ownD_list e2)) (p1.weak fun x z => av_del x z) e3 _ fun u hu => hq u H1 R1 z1 (hu _ _)
/-- .. whose right side is an own object -/
def eCmpR (i : Nat) (g : D → D → Option D) (f : Fe) : Fe := fun s => (f s).bind fun (y, s1) => (s1.ownD i).bind fun d => (g y d).map fun z => (z, s1)
theorem snd_cmpR {E : Ev} {r : R2} {g : D → D → Option D} {t : TE} (sn : SndE E t f) (hr : SndRS E r g) : SndE E (tOp r t (tVar i)) (eCmpR i g f) := by
  intro G W σ H s d s' R hf Q hq
  unfold eCmpR at hf
  simp only [Option.bind_eq_some_iff, Option.map_eq_some_iff] at hf
  obtain ⟨⟨y, s1⟩, e1, d1, e2, z, e3, e4⟩ := hf
  cases e4
  refine sn G W σ H s y _ R e1 _ fun v H1 R1 z1 p1 => ?_
  obtain ⟨a, w1, w2, t0⟩ := R1.own i _ (ownD_some e2)
  exact ⟨_, w2, hr _ H1 v (.ref a) y d1 d (p1.weak fun x z => av_del x z) (R1.asRep (ownD_some e2) w1 (ownD_list e2)) e3 _ fun u hu => hq u H1 R1 z1 (hu _ _)⟩
theorem vt_eqO (i : Nat) (nv : NV X i x) (hu : X.A.units + 64 < cLine) (hb : VE X b f) : VT X (.Compare (.Name x p') [.Eq] [b] pos) (eCmpO i eqD f) := by
  obtain ⟨t, p, sn⟩ := hb.ex
  exact ⟨_, pt_cmpR (op_eqD hu) (pe_var nv.hN nv.hv nv.hd nv.hcd) p (nomark _), snd_test (snd_cmpO sn sr_eq)⟩
theorem vt_neO (i : Nat) (nv : NV X i x) (hu : X.A.units + 64 < cLine) (hb : VE X b f) : VT X (.Compare (.Name x p') [.NotEq] [b] pos) (eCmpO i neD f) := by
  obtain ⟨t, p, sn⟩ := hb.ex
  exact ⟨_, pt_cmpR (op_neD hu) (pe_var nv.hN nv.hv nv.hd nv.hcd) p (nomark _), snd_test (snd_cmpO sn sr_ne)⟩
theorem vt_inO (i : Nat) (nv : NV X i x) (hu : X.A.units + 65 < cLine) (hb : VE X b f) (hm : behindInMarks .In (.Name x p') = false := by rfl) : VT X (.Compare b [.In] [.Name x p'] pos) (eCmpR i inD f) := by
  obtain ⟨t, p, sn⟩ := hb.ex
  exact ⟨_, pt_cmpR ((op_inD hu).or (op_inU hu)) p (pe_var nv.hN nv.hv nv.hd nv.hcd) hm, snd_test (snd_cmpR sn sr_in)⟩
theorem vt_notInO (i : Nat) (nv : NV X i x) (hu : X.A.units + 65 < cLine) (hb : VE X b f) (hm : behindInMarks .NotIn (.Name x p') = false := by rfl) : VT X (.Compare b [.NotIn] [.Name x p'] pos) (eCmpR i notInD f) := by
  obtain ⟨t, p, sn⟩ := hb.ex
  exact ⟨_, pt_cmpR ((op_notInD hu).or (op_notInU hu)) p (pe_var nv.hN nv.hv nv.hd nv.hcd) hm, snd_test (snd_cmpR sn sr_notIn)⟩
end
/-! ### targets -/
abbrev Fg := D → S → Option S
def SndG (E : Ev) (t : TG) (g : Fg) : Prop := ∀ G W σ H s v d s', Rel E G W H σ s → Rep E (Av G W) H v d → g d s = some s' → ∀ Q : L2.St → Hp → Prop,
  (∀ W' σ', Rel E G W' H σ' s' → (∀ a, Av G W' a → Av G W a) → Wk W W' → Q σ' H) → t v σ H Q
def SndGs (E : Ev) (t : TGs) (g : List D → S → Option S) : Prop := ∀ G W σ H s v d s', Rel E G W H σ s → Reps E (Av G W) H v d → g d s = some s' → ∀ Q : L2.St → Hp → Prop,
  (∀ W' σ', Rel E G W' H σ' s' → (∀ a, Av G W' a → Av G W a) → Wk W W' → Q σ' H) → t v σ H Q
structure VG (X : Cx) (tg : Expr) (g : Fg) : Prop where
  ex : ∃ t, PG X tg t ∧ SndG (evX X) t g
structure VGs (X : Cx) (tg : List Expr) (g : List D → S → Option S) : Prop where
  ex : ∃ t, PGs X tg t ∧ SndGs (evX X) t g
def gNm (i : Nat) : Fg := fun d s => some (s.put i (.val d))
def gsNil : List D → S → Option S := fun ds s => match ds with
  | [] => some s
  | _ => none
def gsCons (g : Fg) (gs : List D → S → Option S) : List D → S → Option S := fun ds s => match ds with
  | d :: r => (g d s).bind (gs r)
  | [] => none
def gTp (n : Nat) (gs : List D → S → Option S) : Fg := fun d s => match d with
  | .tuple ds => if ds.length = n then gs ds s else none
  | _ => none
section
variable {X : Cx} {i : Nat} {x : Str} {e : Expr} {es : List Expr} {g : Fg} {gs : List D → S → Option S} {pos : Pos}
theorem snd_gnm {E : Ev} : SndG E (gName i) (gNm i) := fun G W σ H s v d s' R r hf Q hq => by
  cases hf
  exact hq _ _ (R.put r) (fun a => av_del a) wk_del
theorem vg_name (i : Nat) {x : Str} {pos : Pos} (hN : X.N.Nodup) (hi : X.N[i]? = some x := by rfl) (hx : Loc X.env.scope x := by first | exact Or.inl rfl | exact Or.inr rfl) (hf : X.fn x = true ∨ X.env.scope.names.lookup x = some .local := by first | exact .inl rfl | exact .inr rfl) : VG X (.Name x pos) (gNm i) :=
  ⟨_, pg_name hN hi hx hf, snd_gnm⟩
theorem vgs_nil : VGs X [] gsNil := ⟨_, pgs_nil, fun G W σ H s v d s' R r hf Q hq => by
  cases r with
  | nil => cases hf; exact ⟨rfl, hq _ _ R (fun _ h => h) Wk.refl⟩
  | cons _ _ => cases hf⟩
theorem vgs_cons (h : VG X e g) (hr : VGs X es gs) (hs : (assignEach (e :: es) X.env).map (·.2) = assign e X.env :: (assignEach es X.env).map (·.2) := by rfl) : VGs X (e :: es) (gsCons g gs) := by
  obtain ⟨t, p, sn⟩ := h.ex
  obtain ⟨u, q, sm⟩ := hr.ex
  refine ⟨_, pgs_cons p q hs, fun G W σ H s v d s' R r hf Q hq => ?_⟩
  cases r with
  | nil => cases hf
  | cons r1 rt =>
    unfold gsCons at hf
    dsimp only at hf
    simp only [Option.bind_eq_some_iff] at hf
    obtain ⟨s1, h1, h2⟩ := hf
    refine ⟨_, _, rfl, sn G W σ H s _ _ s1 R r1 h1 _ fun W' σ' R' a1 k1 => ?_⟩
    exact sm G W' σ' H s1 _ _ s' R' (rt.weak a1) h2 _ fun W2 σ2 R2 a2 k2 => hq W2 σ2 R2 (fun a z => a1 a (a2 a z)) (k1.trans k2)
theorem vg_tup {k n : Nat} (hc : X.calm = true) (h : VGs X es gs) (hn : (assignEach es X.env).length = n := by rfl) (hst : (assignEach es X.env).findIdx? (·.1) = none := by rfl) : VG X (.Tuple es k pos) (gTp n gs) := by
  obtain ⟨t, p, sn⟩ := h.ex
  refine ⟨_, pg_tup hc p hn hst, fun G W σ H s v d s' R r hf Q hq => ?_⟩
  cases r <;> simp only [gTp] at hf
  all_goals first | (cases hf; done) | skip
  rename_i a xs ds e1 r1
  split at hf
  · rename_i hl
    exact ⟨a, xs, rfl, e1.sqt, by rw [r1.length]; exact hl, sn G W σ H s _ _ s' R r1 hf _ hq⟩
  · cases hf
/-- target = e -/
def sAsg (f : Fe) (g : Fg) : Fs := fun s => (f s).bind fun (d, s1) => (g d s1).map fun s2 => (.next, s2)
theorem vs_asg {tg : Expr} {f : Fe} (h : VE X e f) (hg : VG X tg g) (hs : swapsWithSole [tg] e pos.line X.env = pure false := by rfl) (hw : swappedStores [tg] e X.env = pure none := by rfl) (h1 : (assignEach [tg] X.env).map (·.2) = [assign tg X.env] := by rfl) : VS X (.Assign [tg] e pos) (sAsg f g) := by
  obtain ⟨t, p, sn⟩ := h.ex
  obtain ⟨u, q, sm⟩ := hg.ex
  refine ⟨_, ps_asg p q hs hw h1, fun G W σ H s Dn R po => ?_⟩
  unfold sAsg at po
  match e1 : f s, po with
  | none, po => exact po.elim
  | some (d, s1), po =>
    dsimp only [Option.bind] at po
    match e2 : g d s1, po with
    | none, po => exact po.elim
    | some s2, po =>
      refine sn G W σ H s d s1 R e1 _ fun v H1 R1 z1 p1 => ?_
      exact sm G W σ H1 s1 v d s2 R1 p1 e2 _ fun W' σ' R' a1 k1 => po W' σ' H1 R' (z1.trans (Fz.weak a1)) k1
/-- a, b = x, y -/
def sPar (i j : Nat) (fa : Fa) : Fs := fun s => (fa s).bind fun (ds, s1) => match ds with
  | [a, b] => some (.next, (s1.put i (.val a)).put j (.val b))
  | _ => none
theorem vs_par {i j : Nat} {x y : Str} {a b : Expr} {fa : Fa} {px py pt pt2 : Pos} {kt k2 : Nat} (ha : VA X [a, b] fa) (hc : X.calm = true) (hN : X.N.Nodup) (hi : X.N[i]? = some x := by rfl) (hj : X.N[j]? = some y := by rfl) (hij : i ≠ j := by decide)
    (hx : X.env.scope.names.lookup x = some .local := by rfl) (hy : X.env.scope.names.lookup y = some .local := by rfl)
    (hw : swappedStores [.Tuple [.Name x px, .Name y py] kt pt] (.Tuple [a, b] k2 pt2) X.env = pure (some [x, y]) := by rfl)
    (hs : swapsWithSole [.Tuple [.Name x px, .Name y py] kt pt] (.Tuple [a, b] k2 pt2) pos.line X.env = pure false := by rfl) :
    VS X (.Assign [.Tuple [.Name x px, .Name y py] kt pt] (.Tuple [a, b] k2 pt2) pos) (sPar i j fa) := by
  obtain ⟨t, p, sn⟩ := ha.ex
  refine ⟨_, ps_par hc hN hi hj hij hx hy p hw hs, fun G W σ H s Dn R po => ?_⟩
  unfold sPar at po
  match e1 : fa s, po with
  | none, po => exact po.elim
  | some (ds, s1), po =>
    dsimp only [Option.bind] at po
    split at po
    · refine sn G W σ H s _ s1 R e1 _ fun v H1 R1 z1 p1 => ?_
      cases p1 with
      | cons r1 rt =>
        cases rt with
        | cons r2 rn =>
          cases rn
          refine ⟨_, _, rfl, po _ _ H1 ((R1.put r1).put (r2.weak av_del)) ((z1.trans fz_del).trans fz_del) (wk_del.trans wk_del)⟩
    · exact po.elim
def sPar3 (i j l : Nat) (fa : Fa) : Fs := fun s => (fa s).bind fun (ds, s1) => match ds with
  | [a, b, c] => some (.next, ((s1.put i (.val a)).put j (.val b)).put l (.val c))
  | _ => none
end
end Fx
-- Fx10
namespace Fx
open PySem PySem.Spec L2

/-! ### what is walked -/
/-- the J of a walk gives the data ds, whatever the loop does to things of its own -/
structure Wlk (E : Ev) (A : Addr → Prop) (H1 : Hp) (J : It) (ds : List D) (Gd : Hp → Prop) (Y : Nat → Hp → V → Hp → Prop) : Prop where
  walk : Walk J ds.length Gd Y
  keep : ∀ B H', Fz A B H1 H' → Gd H'
  item : ∀ B (i : Nat) H' x H'', Fz A B H1 H' → Fre B H' → i < ds.length → Y i H' x H'' → Same H' H'' ∧ ∃ d, ds[i]? = some d ∧ Rep E B H'' x d
def SndI (E : Ev) (t : TI) (f : Fa) : Prop := ∀ G W σ H s ds s', Rel E G W H σ s → f s = some (ds, s') → ∀ R : It → Hp → Prop,
  (∀ J H1 Gd Y, Rel E G W H1 σ s' → Fz (Av G W) (Av G W) H H1 → Wlk E (Av G W) H1 J ds Gd Y → R J H1) → t σ H R
structure VI (X : Cx) (tg e : Expr) (f : Fa) : Prop where
  ex : ∃ t, PI X tg e t ∧ SndI (evX X) t f
theorem iter_seqL {X : Cx} {tg : Expr} {pins : List (Addr × Obj)} {σ : L2.St} {H : Hp} {s : Shared} {R : It → Hp → Prop} {a : Addr} {xs : List V} (I : Inv X pins σ H s) (hq : SqL X.K H a xs) (q : R (Itl X.K a) H) :
    wpAny (model X.prog X.w) X.A (pyIter (.ref a)) (PIE X pins σ tg R) X.xe s := by
  obtain ⟨its, _, p, _⟩ := I.list hq
  have new : ∀ b ∈ [s.heap.objs.size], FpOk X pins H b := fun b hb => by
    cases List.mem_singleton.mp hb
    exact I.fpOk (Nat.le_refl _) (I.hok.fresh (Nat.le_refl _))
  exact wpAny_pyIter_list p.isList ⟨_, _, _, _, H, rfl, I.kept (t' := s.toks) fun _ _ => Heap.get?_push_of_some _, turn_list a _, ⟨_, Heap.get?_push_size _ rfl, rfl, rfl⟩, new, q⟩
theorem iter_seqT {X : Cx} {tg : Expr} {pins : List (Addr × Obj)} {σ : L2.St} {H : Hp} {s : Shared} {R : It → Hp → Prop} {a : Addr} {xs : List V} (I : Inv X pins σ H s) (hq : SqT X.K H a xs) (q : R (Itt X.K a) H) :
    wpAny (model X.prog X.w) X.A (pyIter (.ref a)) (PIE X pins σ tg R) X.xe s := by
  obtain ⟨its, _, p, _⟩ := I.tuple hq
  have new : ∀ b ∈ [s.heap.objs.size], FpOk X pins H b := fun b hb => by
    cases List.mem_singleton.mp hb
    exact I.fpOk (Nat.le_refl _) (I.hok.fresh (Nat.le_refl _))
  exact wpAny_pyIter_tuple (items := its.toArray) p ⟨_, _, _, _, H, rfl, I.kept (t' := s.toks) fun _ _ => Heap.get?_push_of_some _, turn_tuple a _, ⟨_, Heap.get?_push_size _ rfl, rfl, rfl⟩, new, q⟩
def iSeq (K : PySem.W.Frag) (tl : TE) : TI := fun σ H R => tl σ H fun x H1 => ∃ a, x = .ref a ∧ (((∃ xs, SqL K H1 a xs) ∧ R (Itl K a) H1) ∨ ((∃ xs, SqT K H1 a xs) ∧ R (Itt K a) H1))
theorem pi_seq {X : Cx} {tg l : Expr} {tl : TE} (hl : PE X l tl) : PI X tg l (iSeq X.K tl) := by
  refine ⟨fun pins s σ H R I h => thn (hl.run pins s σ H _ I h) fun v s1 ⟨x, H1, I1, r1, a, e, q⟩ => ?_⟩
  subst e
  cases r1
  rcases q with ⟨⟨xs, hq⟩, q⟩ | ⟨⟨xs, hq⟩, q⟩
  · exact iter_seqL I1 hq q
  · exact iter_seqT I1 hq q
def iterS (f : Fe) : Fa := fun s => (f s).bind fun (d, s1) => (seqD d).map fun ds => (ds, s1)
section
variable {X : Cx} {tg e a b : Expr} {f f1 f2 : Fe} {fa : Fa} {pos p p' : Pos} {x : Str}
theorem vi_seq (h : VE X e f) : VI X tg e (iterS f) := by
  obtain ⟨t, p, sn⟩ := h.ex
  refine ⟨_, pi_seq p, ?_⟩
  intro G W σ H s ds s' R hf Rq hR
  unfold iterS at hf
  simp only [Option.bind_eq_some_iff, Option.map_eq_some_iff] at hf
  obtain ⟨⟨d, s1⟩, e1, ys, e2, e3⟩ := hf
  cases e3
  refine sn G W σ H s d _ R e1 _ fun v H1 R1 z1 p1 => ?_
  cases p1 <;> simp only [seqD] at e2
  all_goals first | (cases e2; done) | skip
  · rename_i a xs es e4 r1
    cases e2
    refine ⟨a, rfl, .inr ⟨⟨xs, e4.sqt⟩, hR _ H1 (fun H => SqT (evX X).K H a xs) (YAt xs) R1 z1 ⟨by rw [← r1.length]; exact walk_tup, fun B H' z => (TupAt.fz z e4).sqt, fun B i H' y H'' z fr hi hy => ?_⟩⟩⟩
    obtain ⟨rfl, hx⟩ := hy
    obtain ⟨v, h1, h2⟩ := r1.get (List.getElem?_eq_getElem hi)
    rw [hx] at h1; cases h1
    exact ⟨Same.refl _, _, List.getElem?_eq_getElem hi, h2.fz z⟩
  · rename_i a xs es n1 e4 r1
    cases e2
    refine ⟨a, rfl, .inl ⟨⟨xs, SqL.of e4⟩, hR _ H1 (fun H => SqL (evX X).K H a xs) (YAt xs) R1 z1 ⟨by rw [← r1.length]; exact walk_list, fun B H' z => SqL.of (z _ _ n1 e4).2, fun B i H' y H'' z fr hi hy => ?_⟩⟩⟩
    obtain ⟨rfl, hx⟩ := hy
    obtain ⟨v, h1, h2⟩ := r1.get (List.getElem?_eq_getElem hi)
    rw [hx] at h1; cases h1
    exact ⟨Same.refl _, _, List.getElem?_eq_getElem hi, h2.fz z⟩
def rangeL (lo hi : Int) : List D := (List.range (hi - lo).toNat).map fun (k : Nat) => .int (lo + k)
def range1D : List D → Option (List D)
  | [.int n] => if -1000000 ≤ n ∧ n ≤ 1000000 then some (rangeL 0 n) else none
  | _ => none
def range2D : List D → Option (List D)
  | [.int m, .int n] => if -1000000 ≤ m ∧ m ≤ 1000000 ∧ -1000000 ≤ n ∧ n ≤ 1000000 then some (rangeL m n) else none
  | _ => none
def iterA (g : List D → Option (List D)) (fa : Fa) : Fa := fun s => (fa s).bind fun (ds, s1) => (g ds).map fun xs => (xs, s1)
theorem iterA_some {g : List D → Option (List D)} {fa : Fa} {s s' : S} {ds : List D} (h : iterA g fa s = some (ds, s')) : ∃ xs, fa s = some (xs, s') ∧ g xs = some ds := by
  unfold iterA at h
  simp only [Option.bind_eq_some_iff, Option.map_eq_some_iff] at h
  obtain ⟨⟨d, s1⟩, e1, ys, e2, e3⟩ := h
  cases e3
  exact ⟨d, e1, e2⟩
theorem one_int {E : Ev} {A : Addr → Prop} {H : Hp} {xs : List V} {i : Int} (r : Reps E A H xs [.int i]) : xs = [.int i] := by
  cases r with
  | cons a b => cases b; cases a; rfl
theorem wlk_range {E : Ev} {A : Addr → Prop} {H1 : Hp} (lo hi : Int) : Wlk E A H1 (Itr lo (hi - lo).toNat) (rangeL lo hi) (fun _ => True) (YFn fun i => .int (lo + i)) := by
  have hl : (rangeL lo hi).length = (hi - lo).toNat := by simp [rangeL]
  refine ⟨by rw [hl]; exact walk_range, fun _ _ _ => trivial, fun B i H' y H'' z fr hi' hy => ?_⟩
  obtain ⟨rfl, rfl⟩ := hy
  rw [hl] at hi'
  refine ⟨Same.refl _, .int (lo + i), ?_, .int _⟩
  simp only [rangeL, List.getElem?_map, List.getElem?_range hi', Option.map_some]
theorem vi_range1 (hg : Gl X "range") (hm : X.mg "range" = none) (ha : VA X [a] fa) (hs : starEach [a] X.env = [(false, eval a X.env)] := by rfl) : VI X tg (.Call (.Name "range" p) [a] [] pos) (iterA range1D fa) := by
  obtain ⟨t, p, sn⟩ := ha.ex
  refine ⟨_, pi_range1 hg hm p hs, ?_⟩
  intro G W σ H s ds s' R hf Rq hR
  obtain ⟨xs, e1, e2⟩ := iterA_some hf
  refine sn G W σ H s xs _ R e1 _ fun v H1 R1 z1 p1 => ?_
  unfold range1D at e2
  split at e2
  · split at e2
    · rename_i hn
      cases e2
      rw [one_int p1]
      refine ⟨_, rfl, by omega, by omega, ?_⟩
      have q := hR _ H1 _ _ R1 z1 (wlk_range 0 _)
      simpa using q
    · cases e2
  · cases e2
theorem vi_range2 (hg : Gl X "range") (hm : X.mg "range" = none) (ha : VA X [a, b] fa) (hs : starEach [a, b] X.env = [(false, eval a X.env), (false, eval b X.env)] := by rfl) (hs2 : starEach [b] X.env = [(false, eval b X.env)] := by rfl) : VI X tg (.Call (.Name "range" p) [a, b] [] pos) (iterA range2D fa) := by
  obtain ⟨t, p, sn⟩ := ha.ex
  refine ⟨_, pi_range2 hg hm p hs hs2, ?_⟩
  intro G W σ H s ds s' R hf Rq hR
  obtain ⟨xs, e1, e2⟩ := iterA_some hf
  refine sn G W σ H s xs _ R e1 _ fun v H1 R1 z1 p1 => ?_
  unfold range2D at e2
  split at e2
  · split at e2
    · rename_i hn
      cases e2
      rw [two_of p1]
      exact ⟨_, _, rfl, ⟨by omega, by omega, by omega, by omega⟩, hR _ H1 _ _ R1 z1 (wlk_range _ _)⟩
    · cases e2
  · cases e2
/-- enumerate(xs) -/
def enumL (xs : List D) : List D := (List.range xs.length).map fun (k : Nat) => .tuple [.int k, xs.getD k .none]
def enumD : List D → Option (List D)
  | [.list xs] => some (enumL xs)
  | _ => none
theorem vi_enum {elts : List Expr} {kk : Nat} {tpos : Pos} (hg : Gl X "enumerate") (hm : X.mg "enumerate" = none) (ha : VA X [a] fa) (hs : starEach [a] X.env = [(false, eval a X.env)] := by rfl) : VI X (.Tuple elts kk tpos) (.Call (.Name "enumerate" p) [a] [] pos) (iterA enumD fa) := by
  obtain ⟨t, p, sn⟩ := ha.ex
  refine ⟨_, pi_enum hg hm p hs, ?_⟩
  intro G W σ H s ds s' R hf Rq hR
  obtain ⟨xs, e1, e2⟩ := iterA_some hf
  refine sn G W σ H s xs _ R e1 _ fun v H1 R1 z1 p1 => ?_
  unfold enumD at e2
  split at e2
  · rename_i ys
    cases e2
    cases p1 with
    | cons q1 qt =>
      cases qt
      cases q1 with
      | lst n1 e4 r1 =>
        rename_i a vs
        have hl : (enumL ys).length = vs.length := by simp [enumL, r1.length]
        refine ⟨a, vs, rfl, SqL.of e4, hR _ H1 _ _ R1 z1 ⟨by rw [hl]; exact walk_enum, fun B H' z => SqL.of (z _ _ n1 e4).2, fun B i H' y H'' z fr hi hy => ?_⟩⟩
        obtain ⟨T, u, w, rfl, hn, rfl, hu, hw⟩ := hy
        cases hu
        have hi' : i < ys.length := by rw [hl, r1.length] at hi; exact hi
        obtain ⟨w', h1, h2⟩ := r1.get (List.getElem?_eq_getElem hi')
        rw [show vs[i]? = some w from hw] at h1; cases h1
        have k := same_new (o := .tup [.int (i : Nat), w]) hn
        refine ⟨k, .tuple [.int (i : Nat), ys[i]], ?_, .tup (.inl ⟨fr.no hn, upd_same⟩) (.cons (.int _) (.cons ((h2.fz z).fz (Fz.of_same k)) .nil))⟩
        simp [enumL, List.getElem?_range hi', List.getD, List.getElem?_eq_getElem hi']
  · cases e2
/-! ### for -/
def loopF (g : Fg) (F : Fs) : List D → S → Option (Fl × S)
  | [], s => some (.next, s)
  | d :: r, s => (g d s).bind fun s1 => match F s1 with
    | some (.next, s2) => loopF g F r s2
    | some (.cont, s2) => loopF g F r s2
    | some (.brk, s2) => some (.next, s2)
    | x => x
def sFor (fi : Fa) (g : Fg) (F : Fs) : Fs := fun s => (fi s).bind fun (ds, s1) => loopF g F ds s1
theorem loop_step {E : Ev} {t : TS} {F : Fs} {G : Cfg} {W : Wt} {H : Hp} {σ : L2.St} {s : S} {Dn : Ends} {Nx : L2.St → Hp → Prop} {r : S → Option (Fl × S)} (sn : SndS E t F) (R : Rel E G W H σ s)
    (po : Post E G W H Dn (match F s with
      | some (.next, s2) => r s2
      | some (.cont, s2) => r s2
      | some (.brk, s2) => some (.next, s2)
      | x => x))
    (hn : ∀ W' σ' H' s', Rel E G W' H' σ' s' → Fz (Av G W) (Av G W') H H' → Wk W W' → Post E G W' H' Dn (r s') → Nx σ' H') : t { Dn with nx := Nx, ct := Nx, bk := Dn.nx } σ H := by
  refine sn G W σ H s _ R ?_
  match e : F s, po with
  | some (.next, s1), po => exact fun W' σ' H' R' z k => hn W' σ' H' s1 R' z k (Post.back z k po)
  | some (.cont, s1), po => exact fun W' σ' H' R' z k => hn W' σ' H' s1 R' z k (Post.back z k po)
  | some (.brk, s1), po => exact po
  | some (.ret d, s1), po => exact po
  | some (.retF d, s1), po => exact po
  | none, po => exact po.elim
theorem vs_for {body : List Stmt} {g : Fg} {F : Fs} (hp : PassesOwn (model X.prog X.w) X.A X.env X.xe) (hc : X.calm = true) (hi : VI X tg e fa) (hg : VG X tg g) (hb : VB X body F) (hs : ∀ x, foldedSetIterable e X.env x = pure x := by intro _; rfl) :
    VS X (.For tg e body [] pos) (sFor fa g F) := by
  obtain ⟨ti, pi, si⟩ := hi.ex
  obtain ⟨tg', pg, sg⟩ := hg.ex
  obtain ⟨tb, pb, sb⟩ := hb.ex
  refine ⟨_, ps_for hp hc pi pg pb hs, fun G W σ H s Dn R po => ?_⟩
  unfold sFor at po
  match e1 : fa s, po with
  | none, po => exact po.elim
  | some (ds, s1), po =>
    refine si G W σ H s ds s1 R e1 _ fun J H1 Gd Y R1 z1 wl => ?_
    refine for_it wl.walk (fun i σ' H' => ∃ W' s', Rel (evX X) G W' H' σ' s' ∧ Fz (Av G W) (Av G W') H1 H' ∧ Wk W W' ∧ Post (evX X) G W' H' Dn (loopF g F (ds.drop i) s')) ⟨W, s1, R1, Fz.refl, Wk.refl, Post.back z1 Wk.refl po⟩ ?_ ?_ ?_
    · rintro i σ' H' hi' ⟨W', s', R', z, k, _⟩
      exact wl.keep _ H' z
    · rintro i x σ' H' H'' hi' ⟨W', s', R', z, k, p⟩ hy
      obtain ⟨sm, d, hd, rd⟩ := wl.item _ i H' x H'' z R'.fre hi' hy
      have R2 := R'.same sm
      have z2 : Fz (Av G W') (Av G W') H' H'' := Fz.of_same sm
      have p2 := Post.back z2 Wk.refl p
      rw [List.drop_eq_getElem_cons hi'] at p2
      have ed : ds[i] = d := by rw [List.getElem?_eq_getElem hi'] at hd; exact Option.some.inj hd
      rw [ed] at p2
      unfold loopF at p2
      match e2 : g d s', p2 with
      | none, p2 => exact p2.elim
      | some s2, p2 =>
        dsimp only [Option.bind] at p2
        refine sg G W' σ' H'' s' x d s2 R2 rd e2 _ fun W3 σ3 R3 a3 k3 => ?_
        have p3 := Post.back (Fz.weak a3 : Fz (Av G W') (Av G W3) H'' H'') k3 p2
        exact loop_step sb R3 p3 fun W4 σ4 H4 s4 R4 z4 k4 p4 => ⟨W4, s4, R4, ((z.trans z2).trans (Fz.weak a3)).trans z4, (k.trans k3).trans k4, p4⟩
    · rintro σ' H' ⟨W', s', R', z, k, p⟩
      rw [List.drop_length] at p
      exact p W' σ' H' R' Fz.refl Wk.refl
/-! ### while -/
def whileF (c : Fe) (F : Fs) : Nat → S → Option (Fl × S)
  | 0, _ => none
  | n + 1, s => (c s).bind fun (x, s1) => match x with
    | .bool true => (match F s1 with
      | some (.next, s2) => whileF c F n s2
      | some (.cont, s2) => whileF c F n s2
      | some (.brk, s2) => some (.next, s2)
      | x => x)
    | .bool false => some (.next, s1)
    | _ => none
def sWhile (n : Nat) (c : Fe) (F : Fs) : Fs := fun s => whileF c F n s
theorem vs_while (n : Nat) {c : Expr} {body : List Stmt} {F : Fs} (hp : PassesOwn (model X.prog X.w) X.A X.env X.xe) (hc : VT X c f) (hb : VB X body F) : VS X (.While c body [] pos) (sWhile n f F) := by
  obtain ⟨tc, pc, sc⟩ := hc.ex
  obtain ⟨tb, pb, sb⟩ := hb.ex
  refine ⟨_, ps_while hp pc pb, fun G W σ H s Dn R po => ?_⟩
  refine ⟨fun m σ' H' => ∃ W' s', Rel (evX X) G W' H' σ' s' ∧ Post (evX X) G W' H' Dn (whileF f F m s'), ⟨n, W, s, R, po⟩, ?_⟩
  rintro m σ' H' ⟨W', s', R', p⟩
  match m, p with
  | 0, p => exact p.elim
  | m + 1, p =>
    unfold whileF at p
    match e : f s', p with
    | none, p => exact p.elim
    | some (.bool true, s1), p =>
      dsimp only [Option.bind] at p
      refine sc G W' σ' H' s' _ s1 R' e _ fun H1 R1 z1 => ?_
      rw [if_pos rfl]
      refine ⟨fun σ2 H2 => ∃ W2 s2, Rel (evX X) G W2 H2 σ2 s2 ∧ Post (evX X) G W2 H2 Dn (whileF f F m s2), fun σ2 H2 h => ⟨m, Nat.lt_succ_self m, h⟩, ?_⟩
      exact loop_step sb R1 (Post.back z1 Wk.refl p) fun W4 σ4 H4 s4 R4 z4 k4 p4 => ⟨W4, s4, R4, p4⟩
    | some (.bool false, s1), p =>
      dsimp only [Option.bind] at p
      refine sc G W' σ' H' s' _ s1 R' e _ fun H1 R1 z1 => ?_
      rw [if_neg Bool.false_ne_true]
      exact p W' σ' H1 R1 z1 Wk.refl
    | some (.none, s1), p => exact p.elim
    | some (.int _, s1), p => exact p.elim
    | some (.str _, s1), p => exact p.elim
    | some (.list _, s1), p => exact p.elim
    | some (.tuple _, s1), p => exact p.elim
    | some (.dict _, s1), p => exact p.elim
end
end Fx
-- Fc
namespace Fx
open PySem PySem.Spec L2

/-! ### comprehensions with any number of clauses -/
/-- the tests of a clause -/
def testsC (ifs : List Expr) (env : Env) : Sem Bool := forIn ifs true fun c r => if r = true then do let ok ← isTrue c env (eval c env); pure (ForInStep.yield ok) else pure (ForInStep.yield r)
/-- what is done behind the tests of the clause ahead of d, then k -/
def innerC (e : Expr) (gens : List Comprehension) (emit : Sem Unit) (d : Nat) (acc : Value) (env : Env) (k : Sem Fin) : Sem Fin := match gens[d]? with
  | some g => do
    let x ← eval g.iter env
    standAt g.iter.pos
    let x ← foldedSetIterable g.iter env x
    let _ ← runOwn (.compStart e d (← holding [x] (pyIter x)) acc env) env
    k
  | none => do
    emit
    k
/-- one turn of the clause d -/
def turnC (tg iter : Expr) (ifs : List Expr) (inner : Sem Fin → Sem Fin) (it : Value) (env : Env) (k : Sem Fin) : Sem Fin := do
  standAt iter.pos
  match ← pyNext it with
  | none => pure (.done .next)
  | some v =>
    letOwnedTupleGo tg it v
    assign tg env v
    let ok ← testsC ifs env
    if ok = true then inner k else k
def emitL (elt : Expr) (acc : Value) (env : Env) : Sem Unit := do let _ ← call (.builtin "list.append") [acc, ← eval elt env]
def emitS (elt : Expr) (acc : Value) (env : Env) : Sem Unit := do let v ← eval elt env; standAt elt.pos; let _ ← call (.builtin "set.add") [acc, v]
/-- a comprehension and what it does with each element -/
structure CmpK (e : Expr) (gens : List Comprehension) (emit : Value → Env → Sem Unit) : Prop where
  cl : clausesOf e = gens
  turn : ∀ (d : Nat) (tg iter : Expr) (ifs : List Expr) (it acc : Value) (env : Env), gens[d]? = some ⟨tg, iter, ifs, 0⟩ → compTurn e d it acc env = turnC tg iter ifs (innerC e gens (emit acc env) (d + 1) acc env) it env (again (.compLoop e d it acc env))
  quiet : ∀ d it acc env, (Code.compLoop e d it acc env).quiet = true
  denL : ∀ prog w d it acc env, (model prog w).den (.compLoop e d it acc env) = (compTurn e d it acc env).onRaise (fun x => do noteFrame x env; theTreesLotGoes x)
  denS : ∀ prog w d it acc env, (model prog w).den (.compStart e d it acc env) = (compStart e d it acc env).onRaise (fun x => do noteFrame x env; standAt theWindowsPlace)
  undL : ∀ (A : Around) d it acc env, A.under (.compLoop e d it acc env) = A
  undS : ∀ (A : Around) d it acc env, A.under (.compStart e d it acc env) = A
theorem cmpL (elt : Expr) (gens : List Comprehension) (scope : Scope) (pos : Pos) (hs : ∀ g ∈ gens, g.is_async = 0) : CmpK (.ListComp elt gens scope pos) gens (emitL elt) := by
  refine ⟨rfl, fun d tg iter ifs it acc env h => ?_, fun _ _ _ _ => rfl, fun _ _ _ _ _ _ => rfl, fun _ _ _ _ _ _ => rfl, fun _ _ _ _ _ => rfl, fun _ _ _ _ _ => rfl⟩
  unfold compTurn turnC innerC testsC emitL
  simp only [h]
  cases h' : gens[d + 1]? with
  | none => rfl
  | some g =>
    have := hs g (List.mem_of_getElem? h')
    obtain ⟨a, b, c, k⟩ := g
    cases this
    rfl
theorem cmpS (elt : Expr) (gens : List Comprehension) (scope : Scope) (pos : Pos) (hs : ∀ g ∈ gens, g.is_async = 0) : CmpK (.SetComp elt gens scope pos) gens (emitS elt) := by
  refine ⟨rfl, fun d tg iter ifs it acc env h => ?_, fun _ _ _ _ => rfl, fun _ _ _ _ _ _ => rfl, fun _ _ _ _ _ _ => rfl, fun _ _ _ _ _ => rfl, fun _ _ _ _ _ => rfl⟩
  unfold compTurn turnC innerC testsC emitS
  simp only [h]
  cases h' : gens[d + 1]? with
  | none => rfl
  | some g =>
    have := hs g (List.mem_of_getElem? h')
    obtain ⟨a, b, c, k⟩ := g
    cases this
    rfl
/-- nothing is raised -/
abbrev FF : Value → Shared → Prop := fun _ _ => False
section
variable {prog : Program} {w : World} {A : Around} {R : Result → Shared → Prop} {s : Shared} {e : Expr} {gens : List Comprehension} {emit : Value → Env → Sem Unit} {tg iter : Expr} {ifs : List Expr} {it acc : Value} {env : Env} {d : Nat}
/-- the loop of one clause -/
theorem cloop (c : CmpK e gens emit) (hg : gens[d]? = some ⟨tg, iter, ifs, 0⟩) (I : Nat → Shared → Prop)
    (turn : ∀ n s, I n s → wpAny (model prog w) A (pyNext it) (fun r s1 => match r with
      | none => R (.ok .next) s1
      | some v => wpAny (model prog w) A (letOwnedTupleGo tg it v) (fun _ s2 => wpAny (model prog w) A (assign tg env v) (fun _ s3 => wpAny (model prog w) A (testsC ifs env) (fun ok s4 =>
          if ok = true then ∀ (k : Sem Fin) (Q : Fin → Shared → Prop), (∀ s', (∃ m, m < n ∧ I m s') → wpAny (model prog w) A k Q FF s') → wpAny (model prog w) A (innerC e gens (emit acc env) (d + 1) acc env k) Q FF s4
          else ∃ m, m < n ∧ I m s4) FF s3) FF s2) FF s1) FF s)
    (n : Nat) (h : I n s) : codeAny (model prog w) A (.compLoop e d it acc env) R s := by
  refine codeAny_loop (c.quiet _ _ _ _) I (fun n s hI => ?_) n h
  rw [c.denL, c.undL, c.turn d tg iter ifs it acc env hg]
  refine wpAny_noted ?_
  unfold turnC
  refine wpAny_bind (wpAny_standAt (wpAny_bind (wpAny_mono (turn n s hI) (fun r s1 h1 => ?_) fun _ _ z => z.elim)))
  cases r with
  | none => exact wpAny_pure h1
  | some v =>
    refine wpAny_bind (wpAny_mono h1 (fun _ s2 h2 => wpAny_bind (wpAny_mono h2 (fun _ s3 h3 => wpAny_bind (wpAny_mono h3 (fun ok s4 h4 => ?_) fun _ _ z => z.elim)) fun _ _ z => z.elim)) fun _ _ z => z.elim)
    cases ok with
    | false => exact wpAny_pure ⟨rfl, h4⟩
    | true => exact wpAny_mono (h4 _ _ fun s' hs => wpAny_pure ⟨rfl, hs⟩) (fun _ _ q => q) fun _ _ z => z.elim
/-- the start of one clause -/
theorem cstart (c : CmpK e gens emit) (hg : gens[d]? = some ⟨tg, iter, ifs, 0⟩) (h0 : codeAny (model prog w) A (.compLoop e d it acc env) R s)
    (h : wpAny (model prog w) A (pyIter it) (fun it' s' => codeAny (model prog w) A (.compLoop e d it' acc env) R s') FF s) : codeAny (model prog w) A (.compStart e d it acc env) R s := by
  refine codeAny_of_tree ?_
  rw [c.denS, c.undS]
  refine wpAny_notedAt ?_
  unfold compStart
  rw [c.cl, hg]
  show wpAny _ _ (ask >>= _) _ _ s
  refine wpAny_bind (wpAny_askSetting (wpAny_ite ?_))
  split
  · first
      | exact wpAny_bind (wpAny_pure (wpAny_pure (And.intro (c.quiet _ _ _ _) h0)))
      | exact wpAny_pure (And.intro (c.quiet _ _ _ _) h0)
  · refine wpAny_bind (wpAny_rule ?_)
    show wpAny _ _ (standAt iter.pos >>= _) _ _ s
    exact wpAny_bind (wpAny_standAt (wpAny_bind (wpAny_mono h (fun it' s' h' => wpAny_pure (And.intro (c.quiet _ _ _ _) h')) fun _ _ z => z.elim)))
end
theorem wipe_none {σ : L2.St} : ∀ {vs : List Nat}, (∀ i ∈ vs, σ[i]? = some none) → wipe σ vs = σ
  | [], _ => rfl
  | v :: vs, h => by
    unfold wipe
    rw [wipe_none fun i hi => h i (List.mem_cons_of_mem _ hi)]
    apply List.ext_getElem?
    intro j
    by_cases e : j = v
    · subst e
      have q := h j List.mem_cons_self
      rw [List.getElem?_set_self (List.getElem?_eq_some_iff.mp q).1, q]
    · rw [List.getElem?_set_ne (Ne.symm e)]
/-! the clauses in a block -/
section
variable {Y : Cx} {e : Expr} {gens : List Comprehension} {emit : Value → Env → Sem Unit} {acc : Value} {d : Nat}
/-- what the clauses from d on do to the heap -/
def PL (Y : Cx) (e : Expr) (gens : List Comprehension) (emit : Value → Env → Sem Unit) (acc : Value) (d : Nat) (t : L2.St → Hp → (Hp → Prop) → Prop) : Prop :=
  ∀ (pins : List (Addr × Obj)) (s : Shared) (σ : L2.St) (H : Hp) (Nx : Hp → Prop) (k : Sem Fin) (Q : Fin → Shared → Prop), Inv Y pins σ H s → t σ H Nx →
    (∀ s' H', Inv Y pins σ H' s' → Nx H' → wpAny (model Y.prog Y.w) Y.A k Q FF s') → wpAny (model Y.prog Y.w) Y.A (innerC e gens (emit acc Y.env) d acc Y.env k) Q FF s
/-- the turns of a clause -/
def tTurns (J : It) (g : TG) (tt : TT) (t : L2.St → Hp → (Hp → Prop) → Prop) (vs : List Nat) (σ : L2.St) (H1 : Hp) (Nx : Hp → Prop) : Prop := ∃ W : Nat → Nat → Hp → Prop, (∃ m, W 0 m H1) ∧ ∀ i m H, W i m H →
  (J.stop i H ∧ Nx H) ∨ (J.go i H ∧ ∃ Nx' : Hp → Prop, (∀ H', Nx' H' → ∃ m', m' < m ∧ W (i + 1) m' H') ∧ ∀ x H', J.yld i H x H' → g x (wipe σ vs) H' fun σ2 H2 => wipe σ2 vs = wipe σ vs ∧ tt σ2 H2 fun b H3 =>
    if b = true then t σ2 H3 Nx' else Nx' H3)
def tClause (wi : TI) (g : TG) (tt : TT) (t : L2.St → Hp → (Hp → Prop) → Prop) (vs : List Nat) : L2.St → Hp → (Hp → Prop) → Prop := fun σ H Nx => wi σ H fun J H1 => tTurns J g tt t vs σ H1 Nx
/-- the last: the element is put to the list at D -/
theorem pl_emitL {elt : Expr} {te : TE} {D : Addr} (hx : Y.xe = FF) (hd : gens[d]? = none) (he : PE Y elt te) : PL Y e gens (emitL elt) (.ref D) d (fun σ H Nx => te σ H fun y H1 => ∃ xs, H1 D = some (.lst xs) ∧ xs.length < sizeLine ∧ Nx (upd H1 D (.lst (xs ++ [y])))) := by
  intro pins s σ H Nx k Q I h hk
  unfold innerC emitL
  rw [hd]
  have h2 := he.run pins s σ H _ I h
  rw [hx] at h2
  refine wpAny_bind (wpAny_bind (thn h2 fun v s1 ⟨y, H1, I1, r1, xs, hD, hz, nx⟩ => wpAny_bind (app_ok I1 hD hz r1 fun s2 I2 => wpAny_pure (hk s2 _ I2 nx))))
theorem pl_clause {tg iter : Expr} {ifs : List Expr} {wi : TI} {g : TG} {tt : TT} {t : L2.St → Hp → (Hp → Prop) → Prop} {vs : List Nat} (c : CmpK e gens emit) (hx : Y.xe = FF) (hc : Y.calm = true) (hd : gens[d]? = some ⟨tg, iter, ifs, 0⟩) (hi : PI Y tg iter wi) (hg : PG Y tg g) (ht : PTs Y ifs tt) (hs : ∀ x, foldedSetIterable iter Y.env x = pure x)
    (hr : PL Y e gens emit acc (d + 1) t) : PL Y e gens emit acc d (fun σ H Nx => (∀ i ∈ vs, σ[i]? = some none) ∧ tClause wi g tt t vs σ H Nx) := by
  intro pins s σ H Nx k Q I h hk
  obtain ⟨hv, h⟩ := h
  unfold innerC
  rw [hd]
  have h2 := hi.run pins s σ H _ I h
  rw [hx] at h2
  refine wpAny_bind (wpAny_mono h2 (fun x s1 h3 => ?_) fun _ _ z => z)
  refine wpAny_bind (wpAny_standAt (wpAny_bind (wpAny_of_eq (hs x) (wpAny_bind (wpAny_holding (wpAny_mono h3 (fun itv s2 h4 => ?_) fun _ _ z => z))))))
  obtain ⟨it, fp, tn, J, H2, e2, I2, T, st2, f2, W, ⟨m0, w0⟩, turn⟩ := h4
  subst e2
  refine wpAny_bind (wpAny_runOwn ?_)
  rw [Around.mark_none]
  have stat : ∀ {H' : Hp}, (∀ b ∈ fp, H' b = none) → ∀ b ∈ fp, FpOk Y pins H' b := fun hn b hb => ⟨hn b hb, (f2 b hb).2⟩
  have ew : wipe σ vs = σ := wipe_none hv
  have loop : codeAny (model Y.prog Y.w) Y.A (.compLoop e d (.ref it) acc Y.env) (fun r s' => match r with
      | .ok _ => ∃ H', Inv Y pins σ H' s' ∧ Nx H'
      | .error _ => False) s2 := by
    refine cloop c hd (fun n s' => ∃ i H', Inv Y pins σ H' s' ∧ tn i s'.heap ∧ (∀ b ∈ fp, H' b = none) ∧ W i n H') ?_ m0 ⟨0, H2, I2, st2, fun b hb => (f2 b hb).1, w0⟩
    rintro n s5 ⟨i, H5, I5, st5, n5, w5⟩
    rcases turn i n H5 w5 with ⟨stop, nx⟩ | ⟨go, Nx', hNx, step⟩
    · refine thn (T.done Y rfl rfl rfl hc i pins s5 σ H5 FF I5 (stat n5) st5 stop) fun r s6 ⟨hr', I6⟩ => ?_
      subst hr'
      exact ⟨H5, I6, nx⟩
    · refine thn (T.item Y rfl rfl rfl hc i pins s5 σ H5 FF I5 (stat n5) st5 go) fun r s6 ⟨u, hr', h6⟩ => ?_
      subst hr'
      refine thn h6 fun _ s7 ⟨x, H7, I7, r7, y7, st7, n7⟩ => ?_
      have I7' := I7.pinned (stat n7) (T.obj _ _ st7)
      have q7 := step x H7 y7
      rw [ew] at q7
      have h8 := hg.run _ s7 σ H7 x u _ I7' r7 q7
      rw [hx] at h8
      refine thn h8 fun _ s8 ⟨σ8, H8, I8, hw8, q8⟩ => ?_
      have h9 := ht.run _ s8 σ8 H8 _ I8 q8
      rw [hx] at h9
      refine thn h9 fun b s9 ⟨H9, I9, q9⟩ => ?_
      have fin : ∀ {s' : Shared} {H' : Hp}, Inv Y (pins ++ pinsAt fp s7.heap) σ8 H' s' → Nx' H' → ∃ m, m < n ∧ ∃ i H', Inv Y pins σ H' s' ∧ tn i s'.heap ∧ (∀ b ∈ fp, H' b = none) ∧ W i m H' := fun {s' H'} I' nx => by
        obtain ⟨m', hm, w'⟩ := hNx H' nx
        have pin' : ∀ b ∈ fp, ∀ o, s7.heap.get? b = some o → s'.heap.get? b = some o ∧ H' b = none := fun b hb o e =>
          let z := I'.pin (b, o) (List.mem_append_right _ (List.mem_append_right _ (mem_pinsAt hb e)))
          ⟨z.1, z.2.1⟩
        have hl : σ.length = σ8.length := by rw [← hw8, wipe_length]
        refine ⟨m', hm, i + 1, H', I'.unpinned.weak hl (fun j v ej => ?_), T.keep _ _ _ st7 fun b hb o e => (pin' b hb o e).1, fun b hb => ?_, w'⟩
        · rw [← hw8] at ej
          exact (wipe_some ej).1
        · obtain ⟨o, e, _⟩ := T.obj _ _ st7 b hb
          exact (pin' b hb o e).2
      cases b with
      | false =>
        simp only [Bool.false_eq_true, if_false] at q9 ⊢
        exact fin I9 q9
      | true =>
        simp only [if_true] at q9 ⊢
        intro k' Q' hk'
        exact hr _ s9 σ8 H9 Nx' k' Q' I9 q9 fun s10 H10 I10 nx => hk' s10 (fin I10 nx)
  refine cstart c hd (codeAny_mono loop fun r s' hr' => ?_) (T.self Y.A 0 _ _ _ st2 (codeAny_mono loop fun r s' hr' => ?_))
  all_goals
    cases r with
    | ok f => exact hk s' _ hr'.choose_spec.1 hr'.choose_spec.2
    | error e => exact hr'.elim
end
end Fx
-- Fd
namespace Fx
open PySem PySem.Spec L2
/-- a place where the block may run -/
structure Blk where
  s : Shared
  H : Hp
  C : Addr
  cl : List (Str × Addr)
  fp : List Addr
abbrev blkAt (X : Cx) (scope : Scope) (b : Blk) : Cx := X.blk b.s b.H scope (compEnvC scope b.cl b.C X.env) b.fp
/-- a whole list comprehension: the first source, then the turns, from the new list at p on -/
def tCompL (wi : TI) (g : Blk → TG) (tt : Blk → TT) (t : Blk → Addr → L2.St → Hp → (Hp → Prop) → Prop) (vs : List Nat) : TE := fun σ H Q => wi σ H fun J H1 => ∀ p, H1 p = none → ∀ b, tTurns J (g b) (tt b) (t b p) vs σ (upd H1 p (.lst [])) (fun H' => Q (.ref p) H')
/-- every place where the block may run -/
abbrev AtBlk (X : Cx) (scope : Scope) (φ : Blk → Cx → Prop) : Prop := ∀ b : Blk, φ b (blkAt X scope b)
theorem comp_core {X : Cx} {pins : List (Addr × Obj)} {s : Shared} {σ : L2.St} {H : Hp} {Q : VK} {e tg iter : Expr} {ifs : List Expr} {rest : List Comprehension} {emit : Value → Env → Sem Unit} {scope : Scope} {own : List (Str × Nat)} {pos' : Pos} {wi : TI} {g : Blk → TG} {tt : Blk → TT} {t : Blk → Addr → L2.St → Hp → (Hp → Prop) → Prop} {use : Option (Value → Sem Unit)} {Qf : Value → Shared → Prop}
    (c : CmpK e (⟨tg, iter, ifs, 0⟩ :: rest) emit) (hc : X.calm = true) (hN : X.N.Nodup) (I : Inv X pins σ H s) (hi : PI X tg iter wi) (ok : BlkOk X.N X.env.scope scope own)
    (hg : AtBlk X scope fun b Y => PG Y tg (g b)) (ht : AtBlk X scope fun b Y => PTs Y ifs (tt b)) (hr : AtBlk X scope fun b Y => ∀ p, PL Y e (⟨tg, iter, ifs, 0⟩ :: rest) emit (.ref p) 1 (t b p)) (hs : ∀ x, foldedSetIterable iter X.env x = pure x)
    (h : tCompL wi g tt t (own.map (·.2)) σ H Q)
    (hRR : ∀ p C s' m H', Inv X pins σ H' s' → Q (.ref p) H' → s'.heap.Ns C m → FpOk X pins H' C → compPost (model X.prog X.w) X.A X.xe use Qf (.ref p) C (.ok .next) s') :
    wpAny (model X.prog X.w) X.A (comprehension e scope X.env pos' (newList []) false (eval iter X.env) use) Qf X.xe s := by
  have captured : ∀ y ∈ scope.names, y.2 = .free → ∃ k, X.env.cells.lookup y.1 = some k := fun y hy q =>
    (ok.free y hy q).elim (fun z => I.ok.has _ (.inl z)) fun z => I.ok.has _ (.inr z)
  refine wpAny_comprehension_free (use := use) c.cl hs (closure_ok captured) ok.kind (fun y hy q => by rw [ok.uniq y hy, q]) (thn (hi.run pins s σ H _ I h) fun _ s1 h1 => thn h1 fun itv s2 h2 => ?_)
  obtain ⟨it, fp, tn, J, H2, e2, I2, T, st2, f2, q⟩ := h2
  subst e2
  refine wpAny_newObj_type (newEnv_comp ?_) (Nat.zero_le _)
  generalize hp : s2.heap.objs.size = p
  have fresh : H2 p = none := I2.hok.fresh (Nat.le_of_eq hp)
  generalize hs3 : ({ s2 with heap := s2.heap.push { cls := .type "list", data := .seq ([] : List Value).toArray } } : Shared) = s3
  have heap3 : s3.heap = s2.heap.push { cls := .type "list", data := .seq ([] : List Value).toArray } := by rw [← hs3]
  have at3 : s3.heap.get? p = some { cls := .type "list", data := .seq ([] : List Value).toArray } := by rw [heap3, ← hp]; exact Heap.get?_push_size _ rfl
  have I3 : Inv X pins σ (upd H2 p (.lst [])) s3 := by
    rw [← hs3]
    exact I2.laid (t' := s2.toks) (fun _ _ => Heap.get?_push_of_some _) (Nat.le_of_eq hp) ⟨Nat.zero_le _, [], 0, .nil, by rw [← heap3]; exact at3⟩
  have below : ∀ b ∈ fp, b < s2.heap.objs.size := fun b hb => let ⟨_, q, _⟩ := T.obj _ _ st2 b hb; Heap.lt_size q
  have f3 : ∀ b ∈ fp, FpOk X pins (upd H2 p (.lst [])) b ∧ b < s3.heap.objs.size := fun b hb =>
    ⟨⟨by rw [upd_ne (by rw [← hp]; exact Nat.ne_of_lt (below b hb))]; exact (f2 b hb).1, (f2 b hb).2⟩, by rw [heap3, Heap.size_push]; exact Nat.lt_succ_of_lt (below b hb)⟩
  have st3 : tn 0 s3.heap := T.keep _ _ _ st2 fun b _ o q => by rw [heap3]; exact Heap.get?_push_of_some _ q
  have I4 := block_start I3 ok hN f3
  generalize hb : (⟨s3, upd H2 p (.lst []), s3.heap.objs.size, cellsFrom (s3.heap.objs.size + 1) scope.names (cloFrom X.env.cells scope.names []), fp⟩ : Blk) = blk
  have pg := hg blk
  have pt := ht blk
  have pl := hr blk p
  obtain ⟨W, ⟨m0, w0⟩, turn⟩ := q p fresh blk
  have hblk : blkAt X scope blk = X.blk s3 (upd H2 p (.lst [])) scope (compEnvC scope (cellsFrom (s3.heap.objs.size + 1) scope.names (cloFrom X.env.cells scope.names [])) s3.heap.objs.size X.env) fp := by rw [← hb]
  rw [hblk] at pg pt pl
  show codeAny _ _ (.compStart e 0 (.ref it) (.ref p) (compEnvC scope (cellsFrom (s3.heap.objs.size + 1) scope.names (cloFrom X.env.cells scope.names [])) s3.heap.objs.size X.env)) _ { s3 with heap := pushCells (s3.heap.push { cls := .type "dict", data := .dict #[] }) scope.names }
  generalize hce : compEnvC scope (cellsFrom (s3.heap.objs.size + 1) scope.names (cloFrom X.env.cells scope.names [])) s3.heap.objs.size X.env = ce at I4 pg pt pl ⊢
  have here : ce.locals = s3.heap.objs.size := by rw [← hce]; rfl
  have nfp : ∀ b ∈ fp, (upd H2 p (.lst [])) b = none := fun b hb => (f3 b hb).1.1
  generalize hH3 : upd H2 p (.lst []) = H3 at I3 I4 pg pt pl w0 nfp f3
  generalize hs4 : ({ s3 with heap := pushCells (s3.heap.push { cls := .type "dict", data := .dict #[] }) scope.names } : Shared) = s4 at I4 ⊢
  generalize hY : X.blk s3 H3 scope ce fp = Y at I4 pg pt pl
  have yP : Y.prog = X.prog := by rw [← hY]
  have yw : Y.w = X.w := by rw [← hY]
  have yK : Y.K = X.K := by rw [← hY]
  have yA : Y.A = X.A := by rw [← hY]
  have yc : Y.calm = true := by rw [← hY]; exact hc
  have yx : Y.xe = FF := by rw [← hY]
  have ye : Y.env = ce := by rw [← hY]
  have st4 : tn 0 s4.heap := T.keep _ _ _ st3 fun b _ o q => by rw [← hs4]; exact pushCells_keeps _ _ _ _ (Heap.get?_push_of_some _ q)
  have stat : ∀ {σ' : L2.St} {H' : Hp} {s' : Shared}, Inv Y [] σ' H' s' → (∀ b ∈ fp, H' b = none) → ∀ b ∈ fp, FpOk Y [] H' b := fun {σ' H' s'} I' hn b hb => by
    have z := I'.ok
    have ex : b ∈ Y.ex := by rw [← hY]; exact hb
    have pn : Y.pn = [] := by rw [← hY]
    exact ⟨hn b hb, (z.exf b ex).1, z.exfs b ex, .inl ex, (z.exf b ex).2, fun q hq => by rw [pn] at hq; cases hq⟩
  have T' : Turn Y.prog Y.w Y.K tg J fp it tn := by rw [yP, yw, yK]; exact T
  have loop : codeAny (model Y.prog Y.w) Y.A (.compLoop e 0 (.ref it) (.ref p) Y.env) (compPost (model X.prog X.w) X.A X.xe use Qf (.ref p) s3.heap.objs.size) s4 := by
    refine cloop c rfl (fun n s' => ∃ i H', Inv Y [] (wipe σ (own.map (·.2))) H' s' ∧ tn i s'.heap ∧ (∀ b ∈ fp, H' b = none) ∧ W i n H') ?_ m0 ⟨0, H3, I4, st4, nfp, w0⟩
    rintro n s5 ⟨i, H5, I5, st5, n5, w5⟩
    rcases turn i n H5 w5 with ⟨stop, qq⟩ | ⟨go, Nx', hNx, step⟩
    · refine thn (T'.done Y rfl rfl rfl yc i [] s5 _ H5 FF I5 (stat I5 n5) st5 stop) fun r s6 ⟨hr', I6⟩ => ?_
      subst hr'
      have I6' : Inv (X.blk s3 H3 scope ce fp) [] (wipe σ (own.map (·.2))) H5 s6 := by rw [hY]; exact I6
      have I7 : Inv X pins σ H5 s6 := I3.call' (ch := fp) I6'.os I6'.base I6'.hok I6'.bare fun b hb => ⟨(f3 b hb).1.2.2.2.1, (f3 b hb).1.2.1, (f3 b hb).1.2.2.2.2.1, (f3 b hb).1.2.2.2.2.2⟩
      have nC : H5 s3.heap.objs.size = none := by rw [← here]; exact I6'.free
      obtain ⟨m, hn, _⟩ := I6'.loc
      exact hRR p s3.heap.objs.size s6 m H5 I7 qq (by rw [← here]; exact hn) (I3.fpOk (Nat.le_refl _) nC)
    · refine thn (T'.item Y rfl rfl rfl yc i [] s5 _ H5 FF I5 (stat I5 n5) st5 go) fun r s6 ⟨u, hr', h6⟩ => ?_
      subst hr'
      refine thn h6 fun _ s7 ⟨x, H7, I7, r7, y7, st7, n7⟩ => ?_
      have I7' := I7.pinned (stat I7 n7) (T.obj _ _ st7)
      have h8 := pg.run _ s7 _ H7 x u _ I7' r7 (step x H7 y7)
      rw [yx] at h8
      refine thn h8 fun _ s8 ⟨σ8, H8, I8, hw8, q8⟩ => ?_
      have h9 := pt.run _ s8 σ8 H8 _ I8 q8
      rw [yx] at h9
      refine thn h9 fun b s9 ⟨H9, I9, q9⟩ => ?_
      have fin : ∀ {s' : Shared} {H' : Hp}, Inv Y ([] ++ pinsAt fp s7.heap) σ8 H' s' → Nx' H' → ∃ m, m < n ∧ ∃ i H', Inv Y [] (wipe σ (own.map (·.2))) H' s' ∧ tn i s'.heap ∧ (∀ b ∈ fp, H' b = none) ∧ W i m H' := fun {s' H'} I' nx => by
        obtain ⟨m', hm, w'⟩ := hNx H' nx
        have pinned : ∀ b ∈ fp, ∀ o, s7.heap.get? b = some o → s'.heap.get? b = some o ∧ H' b = none := fun b hb o q =>
          have z := I'.pin (b, o) (List.mem_append_right _ (List.mem_append_right _ (mem_pinsAt hb q)))
          ⟨z.1, z.2.1⟩
        have hl : (wipe σ (own.map (·.2))).length = σ8.length := by rw [← hw8, wipe_length]
        refine ⟨m', hm, i + 1, H', (I'.unpinned (pins := [])).weak hl (fun j v ej => ?_), T.keep _ _ _ st7 fun b hb o q => (pinned b hb o q).1, fun b hb => ?_, w'⟩
        · rw [← hw8] at ej
          exact (wipe_some ej).1
        · obtain ⟨o, q, _⟩ := T.obj _ _ st7 b hb
          exact (pinned b hb o q).2
      cases b with
      | false =>
        simp only [Bool.false_eq_true, if_false] at q9 ⊢
        exact fin I9 q9
      | true =>
        simp only [if_true] at q9 ⊢
        intro k' Q' hk'
        exact pl _ s9 σ8 H9 Nx' k' Q' I9 q9 fun s10 H10 I10 nx => hk' s10 (fin I10 nx)
  rw [yP, yw, yA, ye] at loop
  exact cstart c rfl loop (T.self X.A 0 _ _ _ st4 loop)
section
variable {X : Cx} {elt tg iter : Expr} {ifs : List Expr} {rest : List Comprehension} {scope : Scope} {own : List (Str × Nat)} {pos : Pos} {wi : TI} {g : Blk → TG} {tt : Blk → TT} {t : Blk → Addr → L2.St → Hp → (Hp → Prop) → Prop}
theorem pe_comp (ha : ∀ c ∈ rest, c.is_async = 0) (hc : X.calm = true) (hN : X.N.Nodup) (hi : PI X tg iter wi) (ok : BlkOk X.N X.env.scope scope own) (hg : AtBlk X scope fun b Y => PG Y tg (g b)) (ht : AtBlk X scope fun b Y => PTs Y ifs (tt b))
    (hr : AtBlk X scope fun b Y => ∀ p, PL Y (.ListComp elt (⟨tg, iter, ifs, 0⟩ :: rest) scope pos) (⟨tg, iter, ifs, 0⟩ :: rest) (emitL elt) (.ref p) 1 (t b p)) (hs : ∀ x, foldedSetIterable iter X.env x = pure x) :
    PE X (.ListComp elt (⟨tg, iter, ifs, 0⟩ :: rest) scope pos) (tCompL wi g tt t (own.map (·.2))) := by
  refine ⟨fun pins s σ H Q I h => ?_⟩
  rw [eval_ListComp]
  refine comp_core (cmpL elt _ scope pos (fun c hc => ?_)) hc hN I hi ok hg ht hr hs h fun p C s' m H' I' q hn f => ⟨m, hn, fun h'' sb => ?_⟩
  · rcases List.mem_cons.mp hc with rfl | hc
    · rfl
    · exact ha c hc
  · obtain ⟨f0, f1, f2, f3, f4, f5⟩ := f
    exact ⟨.ref p, H', I'.turned (t' := s'.toks) (fun b o hb e => (sb.2 b hb).trans e) f0 f1 f3 f4 f5, rfl, q⟩
end
end Fx
-- Fx11
namespace Fx
open PySem PySem.Spec L2
def S.wipe (s : S) : List Nat → S
  | [] => s
  | i :: vs => (s.wipe vs).put i .no
def Wn (W : Wt) (vs : List Nat) : Prop := ∀ i ∈ vs, W.ow i = none
section
variable {E : Ev} {G : Cfg} {W : Wt} {H : Hp} {σ : L2.St} {s : S} {i : Nat} {vs : List Nat}
theorem del_none (h : W.ow i = none) : W.del i = W := by
  obtain ⟨ow, tn, mt⟩ := W
  unfold Wt.del
  congr 1
  funext j
  by_cases e : j = i
  · subst e; simp; exact h.symm
  · simp [e]
theorem Rel.clr (R : Rel E G W H σ s) (h : W.ow i = none) : Rel E G W H (σ.set i none) (s.put i .no) where
  len := by simp [S.put, R.len]
  fr := R.fr
  val := fun j d q => by
    rcases put_get q with ⟨rfl, e, hl⟩ | ⟨hj, q⟩
    · cases e
    · rw [List.getElem?_set_ne (Ne.symm hj)]; exact R.val j d q
  own := fun j d q => by
    rcases put_get q with ⟨rfl, e, hl⟩ | ⟨hj, q⟩
    · cases e
    · rw [List.getElem?_set_ne (Ne.symm hj)]; exact R.own j d q
  dom := fun j a q => by
    obtain ⟨h1, h2, h3, d, h4⟩ := R.dom j a q
    have hj : j ≠ i := fun z => by rw [z, h] at q; cases q
    exact ⟨h1, h2, h3, d, by simp [S.put, List.getElem?_set_ne (Ne.symm hj), h4]⟩
  inj := R.inj
  obj := R.obj
  tow := R.tow
  tnc := fun j q => by
    rcases put_get q with ⟨rfl, e, hl⟩ | ⟨hj, q⟩
    · cases e
    · rw [List.getElem?_set_ne (Ne.symm hj)]; exact R.tnc j q
  rwc := fun j q => by
    rcases put_get q with ⟨rfl, e, hl⟩ | ⟨hj, q⟩
    · cases e
    · rw [List.getElem?_set_ne (Ne.symm hj)]; exact R.rwc j q
  noc := fun j q => by
    rcases put_get q with ⟨rfl, e, hl⟩ | ⟨hj, q⟩
    · rw [R.len] at hl; simp [hl]
    · rw [List.getElem?_set_ne (Ne.symm hj)]; exact R.noc j q
  ptc := fun j q => by
    rcases put_get q with ⟨rfl, e, hl⟩ | ⟨hj, q⟩
    · cases e
    · rw [List.getElem?_set_ne (Ne.symm hj)]; exact R.ptc j q
  pl := R.pl
  plc := fun j d q => by
    rcases put_get q with ⟨rfl, e, hl⟩ | ⟨hj, q⟩
    · cases e
    · exact (R.plc j d q).step Fz.refl (fun _ _ _ e => e) (List.getElem?_set_ne (Ne.symm hj))
theorem Rel.wipe : ∀ {vs : List Nat}, Rel E G W H σ s → Wn W vs → Rel E G W H (L2.wipe σ vs) (s.wipe vs)
  | [], R, _ => R
  | v :: vs, R, h => (Rel.wipe R fun i hi => h i (List.mem_cons_of_mem _ hi)).clr (h v List.mem_cons_self)
theorem wipe_get (s : S) {j : Nat} : ∀ {vs : List Nat}, (s.wipe vs).rho[j]? = if j ∈ vs then (s.rho[j]?).map (fun _ => C.no) else s.rho[j]?
  | [] => by simp [S.wipe]
  | v :: vs => by
    unfold S.wipe S.put
    by_cases e : j = v
    · subst e
      by_cases hl : j < (s.wipe vs).rho.length
      · rw [List.getElem?_set_self hl, if_pos List.mem_cons_self]
        have : j < s.rho.length := by
          have q := wipe_get s (j := j) (vs := vs)
          rw [List.getElem?_eq_getElem hl] at q
          by_cases z : j < s.rho.length
          · exact z
          · rw [List.getElem?_eq_none (Nat.le_of_not_lt z)] at q
            split at q <;> cases q
        rw [List.getElem?_eq_getElem this]
        rfl
      · rw [List.getElem?_eq_none (by simpa using Nat.le_of_not_lt hl), if_pos List.mem_cons_self]
        have q := wipe_get s (j := j) (vs := vs)
        rw [List.getElem?_eq_none (Nat.le_of_not_lt hl)] at q
        split at q
        · exact q
        · rw [← q]; rfl
    · rw [List.getElem?_set_ne (Ne.symm e), wipe_get s (vs := vs)]
      by_cases m : j ∈ vs
      · rw [if_pos m, if_pos (List.mem_cons_of_mem _ m)]
      · rw [if_neg m, if_neg fun z => (List.mem_cons.mp z).elim e m]
theorem wipe_set {x : Option V} : ∀ {vs : List Nat} {i : Nat}, i ∈ vs → L2.wipe (σ.set i x) vs = L2.wipe σ vs
  | v :: vs, i, h => by
    by_cases m : i ∈ vs
    · show (L2.wipe (σ.set i x) vs).set v none = (L2.wipe σ vs).set v none
      rw [wipe_set m]
    · have e : i = v := (List.mem_cons.mp h).elim id fun z => absurd z m
      subst e
      apply List.ext_getElem?
      intro j
      show ((L2.wipe (σ.set i x) vs).set i none)[j]? = ((L2.wipe σ vs).set i none)[j]?
      by_cases ej : j = i
      · subst ej
        by_cases hl : j < σ.length
        · rw [List.getElem?_set_self (by rw [wipe_length]; simpa using hl), List.getElem?_set_self (by rw [wipe_length]; exact hl)]
        · rw [List.getElem?_eq_none (by rw [List.length_set, wipe_length]; simpa using Nat.le_of_not_lt hl), List.getElem?_eq_none (by rw [List.length_set, wipe_length]; exact Nat.le_of_not_lt hl)]
      · rw [List.getElem?_set_ne (Ne.symm ej), List.getElem?_set_ne (Ne.symm ej)]
        by_cases mj : j ∈ vs
        · have key : ∀ τ : L2.St, τ.length = σ.length → (L2.wipe τ vs)[j]? = if j < σ.length then some none else none := fun τ hτ => by
            have q : ∀ (v' : V), (L2.wipe τ vs)[j]? ≠ some (some v') := fun v' z => (wipe_some z).2 mj
            by_cases hl : j < σ.length
            · rw [if_pos hl]
              have hl' : j < (L2.wipe τ vs).length := by rw [wipe_length, hτ]; exact hl
              rw [List.getElem?_eq_getElem hl'] at q ⊢
              cases z : (L2.wipe τ vs)[j] with
              | none => rfl
              | some v' => exact absurd (by rw [z]) (q v')
            · rw [if_neg hl]
              exact List.getElem?_eq_none (by rw [wipe_length, hτ]; exact Nat.le_of_not_lt hl)
          rw [key _ (by simp), key _ rfl]
        · rw [wipe_out mj, wipe_out mj, List.getElem?_set_ne (Ne.symm ej)]
end
/-! ### targets of a comprehension -/
def SndGc (E : Ev) (vs : List Nat) (t : TG) (g : Fg) : Prop := ∀ G W σ H s v d s', Rel E G W H σ s → Wn W vs → Rep E (Av G W) H v d → g d s = some s' → ∀ Q : L2.St → Hp → Prop,
  (∀ σ', Rel E G W H σ' s' → L2.wipe σ' vs = L2.wipe σ vs → Q σ' H) → t v σ H Q
def SndGcs (E : Ev) (vs : List Nat) (t : TGs) (g : List D → S → Option S) : Prop := ∀ G W σ H s v d s', Rel E G W H σ s → Wn W vs → Reps E (Av G W) H v d → g d s = some s' → ∀ Q : L2.St → Hp → Prop,
  (∀ σ', Rel E G W H σ' s' → L2.wipe σ' vs = L2.wipe σ vs → Q σ' H) → t v σ H Q
structure VGc (X : Cx) (vs : List Nat) (tg : Expr) (t : TG) (g : Fg) : Prop where
  p : PG X tg t
  s : SndGc (evX X) vs t g
structure VGcs (X : Cx) (vs : List Nat) (tg : List Expr) (t : TGs) (g : List D → S → Option S) : Prop where
  p : PGs X tg t
  s : SndGcs (evX X) vs t g
section
variable {X : Cx} {vs : List Nat} {e : Expr} {es : List Expr} {t : TG} {u : TGs} {g : Fg} {gs : List D → S → Option S} {pos : Pos}
theorem vgc_name (i : Nat) {x : Str} (hN : X.N.Nodup) (hm : i ∈ vs := by decide) (hi : X.N[i]? = some x := by rfl) (hx : Loc X.env.scope x := by first | exact Or.inl rfl | exact Or.inr rfl) (hf : X.fn x = true ∨ X.env.scope.names.lookup x = some .local := by first | exact .inl rfl | exact .inr rfl) : VGc X vs (.Name x pos) (gName i) (gNm i) :=
  ⟨pg_name hN hi hx hf, fun G W σ H s v d s' R wn r hf Q hq => by
    cases hf
    have R' := R.put (i := i) r
    rw [del_none (wn i hm)] at R'
    exact hq _ R' (wipe_set hm)⟩
theorem vgcs_nil : VGcs X vs [] gNil gsNil := ⟨pgs_nil, fun G W σ H s v d s' R wn r hf Q hq => by
  cases r with
  | nil => cases hf; exact ⟨rfl, hq _ R rfl⟩
  | cons _ _ => cases hf⟩
theorem vgcs_cons (h : VGc X vs e t g) (hr : VGcs X vs es u gs) (hs : (assignEach (e :: es) X.env).map (·.2) = assign e X.env :: (assignEach es X.env).map (·.2) := by rfl) : VGcs X vs (e :: es) (gCons t u) (gsCons g gs) := by
  refine ⟨pgs_cons h.p hr.p hs, fun G W σ H s v d s' R wn r hf Q hq => ?_⟩
  cases r with
  | nil => cases hf
  | cons r1 rt =>
    unfold gsCons at hf
    dsimp only at hf
    simp only [Option.bind_eq_some_iff] at hf
    obtain ⟨s1, h1, h2⟩ := hf
    refine ⟨_, _, rfl, h.s G W σ H s _ _ s1 R wn r1 h1 _ fun σ' R' e1 => ?_⟩
    exact hr.s G W σ' H s1 _ _ s' R' wn rt h2 _ fun σ2 R2 e2 => hq σ2 R2 (e2.trans e1)
theorem vgc_tup {k n : Nat} (hc : X.calm = true) (h : VGcs X vs es u gs) (hn : (assignEach es X.env).length = n := by rfl) (hst : (assignEach es X.env).findIdx? (·.1) = none := by rfl) : VGc X vs (.Tuple es k pos) (gTup X.K n u) (gTp n gs) := by
  refine ⟨pg_tup hc h.p hn hst, fun G W σ H s v d s' R wn r hf Q hq => ?_⟩
  cases r <;> simp only [gTp] at hf
  all_goals first | (cases hf; done) | skip
  rename_i a xs ds e1 r1
  split at hf
  · rename_i hl
    exact ⟨a, xs, rfl, e1.sqt, by rw [r1.length]; exact hl, h.s G W σ H s _ _ s' R wn r1 hf _ hq⟩
  · cases hf
end
end Fx
-- Fx12
namespace Fx
open PySem PySem.Spec L2
def Cfg.lay (G : Cfg) (p : Addr) (o : HO) : Cfg := { G with H0 := upd G.H0 p o, O := fun a => G.O a ∨ a = p }
theorem wipe_at (σ : L2.St) (vs : List Nat) (j : Nat) : (L2.wipe σ vs)[j]? = if j ∈ vs then (if j < σ.length then some none else none) else σ[j]? := by
  by_cases m : j ∈ vs
  · rw [if_pos m]
    have q : ∀ (v' : V), (L2.wipe σ vs)[j]? ≠ some (some v') := fun v' z => (wipe_some z).2 m
    by_cases hl : j < σ.length
    · rw [if_pos hl]
      have hl' : j < (L2.wipe σ vs).length := by rw [wipe_length]; exact hl
      rw [List.getElem?_eq_getElem hl'] at q ⊢
      cases z : (L2.wipe σ vs)[j] with
      | none => rfl
      | some v' => exact absurd (by rw [z]) (q v')
    · rw [if_neg hl]
      exact List.getElem?_eq_none (by rw [wipe_length]; exact Nat.le_of_not_lt hl)
  · rw [if_neg m, wipe_out m]
theorem wipe_idem (σ : L2.St) (vs : List Nat) : L2.wipe (L2.wipe σ vs) vs = L2.wipe σ vs := by
  apply List.ext_getElem?
  intro j
  rw [wipe_at, wipe_length]
  by_cases m : j ∈ vs
  · rw [if_pos m, wipe_at, if_pos m]
  · rw [if_neg m]
section
variable {E : Ev} {G : Cfg} {W : Wt} {H H1 H2 : Hp} {σ : L2.St} {s : S} {p : Addr} {o o' : HO}
theorem Rel.to_lay (R : Rel E G W H σ s) (h : H p = none) (hnt : NT o := by exact fun _ z => nomatch z) : Rel E (G.lay p o) W (upd H p o) σ s := by
  have B := R.laid (o := o) h hnt
  have R0 := R.fresh0 h
  exact {
    len := B.len
    fr := fun a u e t => by
      by_cases z : a = p
      · subst z
        have e' : upd G.H0 a o a = some u := e
        rw [upd_same] at e' ⊢
        exact e'
      · have e' : upd G.H0 p o a = some u := e
        rw [upd_ne z] at e'
        exact B.fr a u e' t
    val := B.val
    own := B.own
    dom := fun i a e => by
      obtain ⟨h1, h2, h3, h4⟩ := B.dom i a e
      refine ⟨?_, h2, h3, h4⟩
      show upd G.H0 p o a = none
      rw [upd_ne fun z => h3 (.inr z)]
      exact h1
    inj := B.inj
    obj := B.obj
    tow := B.tow
    tnc := B.tnc
    rwc := B.rwc
    noc := B.noc
    ptc := B.ptc
    pl := B.pl.h0 fun a ha e => by
      show upd G.H0 p o a = none
      rw [upd_ne fun z => by rw [z] at ha; exact R.free h (.inr (.inr ha))]
      exact e
    plc := B.plc }
theorem Rel.of_lay (R : Rel E (G.lay p o) W H σ s) (h0 : G.H0 p = none) : Rel E (G.bar p) W H σ s where
  len := R.len
  fr := fun a u e t => R.fr a u (by
    show upd G.H0 p o a = some u
    have e' : G.H0 a = some u := e
    rw [upd_ne (ne_of_none e' h0)]
    exact e') t
  val := R.val
  own := R.own
  dom := fun i a e => by
    obtain ⟨h1, h2, h3, h4⟩ := R.dom i a e
    refine ⟨?_, h2, h3, h4⟩
    have h1' : upd G.H0 p o a = none := h1
    rw [upd_ne fun z => h3 (.inr z)] at h1'
    exact h1'
  inj := R.inj
  obj := R.obj
  tow := R.tow
  tnc := R.tnc
  rwc := R.rwc
  noc := R.noc
  ptc := R.ptc
  pl := R.pl.h0 fun a ha e => by
    have e' : upd G.H0 p o a = none := e
    by_cases z : a = p
    · rw [z]; exact h0
    · rw [upd_ne z] at e'; exact e'
  plc := R.plc
theorem Rel.at_lay (R : Rel E (G.lay p o) W H σ s) (ht : ¬ TownA W p) : H p = some o := R.fr p o upd_same ht
/-- the object that is laid there is changed -/
theorem Rel.lay_put (R : Rel E (G.lay p o) W H σ s) (ht : ¬ TownA W p) (hnt : NT o' := by exact fun _ z => nomatch z) : Rel E (G.lay p o') W (upd H p o') σ s := by
  have av : Av (G.lay p o) W p := .inl (.inr rfl)
  have fz : Fz (Av (G.lay p o) W) (Av (G.lay p o') W) H (upd H p o') := fun b u n e => ⟨n, by rw [upd_ne (fun z => n (by rw [z]; exact av))]; exact e⟩
  exact {
    len := R.len
    fr := fun a u e t => by
      by_cases z : a = p
      · subst z
        have e' : upd G.H0 a o' a = some u := e
        rw [upd_same] at e' ⊢
        exact e'
      · have e' : upd G.H0 p o' a = some u := e
        rw [upd_ne z] at e' ⊢
        exact R.fr a u (by show upd G.H0 p o a = some u; rw [upd_ne z]; exact e') t
    val := fun i d h => let ⟨v, e1, q⟩ := R.val i d h; ⟨v, e1, q.fz fz⟩
    own := fun i d h => by
      obtain ⟨a, e1, e2, q⟩ := R.own i d h
      refine ⟨a, e1, e2, q.fz fz fun u e => ?_⟩
      rw [upd_ne fun z => (R.dom i a e1).2.2.1 (.inr z)]
      exact e
    dom := fun i a e => by
      obtain ⟨h1, h2, h3, h4⟩ := R.dom i a e
      refine ⟨?_, h2, h3, h4⟩
      have h1' : upd G.H0 p o a = none := h1
      show upd G.H0 p o' a = none
      rw [upd_ne fun z => h3 (.inr z)] at h1' ⊢
      exact h1'
    inj := R.inj
    obj := fun a h => by
      by_cases z : a = p
      · rw [z]; exact ⟨o', upd_same, hnt⟩
      · rw [upd_ne z]; exact R.obj a h
    tow := R.tow.same fun a u h e => by
      rw [upd_ne fun z => ht (by rw [← z]; exact h)]
      exact e
    tnc := R.tnc
    rwc := R.rwc
    noc := R.noc
    ptc := R.ptc
    pl := (R.pl.same fun a u h e => by
      rw [upd_ne fun z => ht (by rw [← z]; exact h)]
      exact e).h0 fun a ha e => by
      have ne : a ≠ p := fun z => ht (by rw [← z]; exact ha)
      have e' : upd G.H0 p o a = none := e
      show upd G.H0 p o' a = none
      rw [upd_ne ne] at e' ⊢
      exact e'
    plc := fun i d h => (R.plc i d h).step fz fun a u h e => by
      rw [upd_ne fun z => ht (by rw [← z]; exact h)]
      exact e }
end
/-! ### the clauses as functions -/
abbrev Fp := List D → S → Option (List D × S)
def SndP (E : Ev) (p : Addr) (t : L2.St → Hp → (Hp → Prop) → Prop) (f : Fp) : Prop := ∀ (G : Cfg) (W : Wt) (σ : L2.St) (H : Hp) (s : S) (xs : List V) (acc acc' : List D) (s' : S), Rel E (G.lay p (.lst xs)) W H σ s → ¬ TownA W p → Reps E (Av (G.bar p) W) H xs acc → f acc s = some (acc', s') → ∀ Nx : Hp → Prop,
  (∀ (ys : List V) (H' : Hp), Rel E (G.lay p (.lst ys)) W H' σ s' → Fz (Av (G.bar p) W) (Av (G.bar p) W) H H' → Reps E (Av (G.bar p) W) H' ys acc' → Nx H') → t σ H Nx
def pEmit (f : Fe) : Fp := fun acc s => (f s).bind fun (y, s1) => if acc.length < 100000 then some (acc ++ [y], s1) else none
theorem snd_emit {E : Ev} {p : Addr} {te : TE} {f : Fe} (sn : SndE E te f) : SndP E p (fun σ H Nx => te σ H fun y H1 => ∃ xs, H1 p = some (.lst xs) ∧ xs.length < sizeLine ∧ Nx (upd H1 p (.lst (xs ++ [y])))) (pEmit f) := by
  intro G W σ H s xs acc acc' s' R ht rs hf Nx hn
  unfold pEmit at hf
  simp only [Option.bind_eq_some_iff] at hf
  obtain ⟨⟨y, s1⟩, e1, e2⟩ := hf
  dsimp only at e2
  split at e2
  · rename_i hl
    cases e2
    refine sn (G.lay p (.lst xs)) W σ H s y _ R e1 _ fun v H1 R1 z1 p1 => ⟨xs, R1.at_lay ht, line_lt (by rw [rs.length]; exact hl), ?_⟩
    have av : Av (G.bar p) W p := .inl (.inr rfl)
    refine hn _ _ (R1.lay_put ht) (z1.trans (Fz.turn av)) (((rs.fz z1).append (.cons p1 .nil)).fz (Fz.turn av))
  · cases e2
def clLoop (g : Fg) (ft : Fe) (vs : List Nat) (inner : Fp) : List D → Fp
  | [], acc, s => some (acc, s)
  | d :: r, acc, s => (g d s).bind fun s1 => (ft s1).bind fun (b, s2) => match b with
    | .bool true => (inner acc s2).bind fun (acc', s3) => clLoop g ft vs inner r acc' (s3.wipe vs)
    | .bool false => clLoop g ft vs inner r acc (s2.wipe vs)
    | _ => none
theorem snd_turns {E : Ev} {G : Cfg} {W : Wt} {H1 H2 : Hp} {σ : L2.St} {s0 s' : S} {p : Addr} {xs : List V} {acc acc' ds : List D} {A0 : Addr → Prop} {J : It} {Gd : Hp → Prop} {Y : Nat → Hp → V → Hp → Prop} {tg : TG} {g : Fg} {tt : TT} {ft : Fe} {t : L2.St → Hp → (Hp → Prop) → Prop} {inner : Fp} {vs : List Nat} {Nx : Hp → Prop}
    (sg : SndGc E vs tg g) (st : SndT E tt ft) (sp : SndP E p t inner) (wl : Wlk E A0 H1 J ds Gd Y) (z0 : Fz A0 (Av (G.bar p) W) H1 H2) (R2 : Rel E (G.lay p (.lst xs)) W H2 (L2.wipe σ vs) s0) (ht : ¬ TownA W p) (wn : Wn W vs) (rs : Reps E (Av (G.bar p) W) H2 xs acc)
    (hl : clLoop g ft vs inner ds acc s0 = some (acc', s')) (hn : ∀ ys H', Rel E (G.lay p (.lst ys)) W H' (L2.wipe σ vs) s' → Fz (Av (G.bar p) W) (Av (G.bar p) W) H2 H' → Reps E (Av (G.bar p) W) H' ys acc' → Nx H') : tTurns J tg tt t vs σ H2 Nx := by
  refine ⟨fun i m H => m = ds.length - i ∧ i ≤ ds.length ∧ ∃ ys acci si, Rel E (G.lay p (.lst ys)) W H (L2.wipe σ vs) si ∧ Fz (Av (G.bar p) W) (Av (G.bar p) W) H2 H ∧ Reps E (Av (G.bar p) W) H ys acci ∧ clLoop g ft vs inner (ds.drop i) acci si = some (acc', s'), ⟨ds.length, by simp, Nat.zero_le _, xs, acc, s0, R2, Fz.refl, rs, hl⟩, ?_⟩
  rintro i m H ⟨rfl, hi, ys, acci, si, R, z, r, hc⟩
  have zz : Fz A0 (Av (G.bar p) W) H1 H := z0.trans z
  have gd := wl.keep _ H zz
  by_cases hlt : i < ds.length
  · refine .inr ⟨wl.walk.goes i H hlt gd, fun H' => ∃ ys acci si, Rel E (G.lay p (.lst ys)) W H' (L2.wipe σ vs) si ∧ Fz (Av (G.bar p) W) (Av (G.bar p) W) H2 H' ∧ Reps E (Av (G.bar p) W) H' ys acci ∧ clLoop g ft vs inner (ds.drop (i + 1)) acci si = some (acc', s'), fun H' q => ⟨ds.length - (i + 1), by omega, rfl, hlt, q⟩, fun x H' hy => ?_⟩
    obtain ⟨sm, d, hd, rd⟩ := wl.item _ i H x H' zz R.fre hlt (wl.walk.yields i H x H' hlt gd hy)
    have zs : Fz (Av (G.bar p) W) (Av (G.bar p) W) H H' := Fz.of_same sm
    rw [List.drop_eq_getElem_cons hlt] at hc
    have ed : ds[i] = d := by rw [List.getElem?_eq_getElem hlt] at hd; exact Option.some.inj hd
    rw [ed] at hc
    unfold clLoop at hc
    simp only [Option.bind_eq_some_iff] at hc
    obtain ⟨s1, e1, ⟨b, s2⟩, e2, e3⟩ := hc
    refine sg _ W _ H' si x d s1 (R.same sm) wn rd e1 _ fun σ2 R1 hw => ⟨by rw [hw, wipe_idem], ?_⟩
    rw [wipe_idem] at hw
    dsimp only at e3
    split at e3
    · refine st _ W σ2 H' s1 true s2 R1 e2 _ fun H3 R3 z3 => ?_
      rw [if_pos rfl]
      simp only [Option.bind_eq_some_iff] at e3
      obtain ⟨⟨acc2, s3⟩, e4, e5⟩ := e3
      refine sp G W σ2 H3 s2 ys acci acc2 s3 R3 ht ((r.fz zs).fz z3) e4 _ fun ys' H4 R4 z4 r4 => ⟨ys', acc2, s3.wipe vs, ?_, ((z.trans zs).trans z3).trans z4, r4, e5⟩
      rw [← hw]
      exact R4.wipe wn
    · refine st _ W σ2 H' s1 false s2 R1 e2 _ fun H3 R3 z3 => ?_
      rw [if_neg Bool.false_ne_true]
      refine ⟨ys, acci, s2.wipe vs, ?_, (z.trans zs).trans z3, (r.fz zs).fz z3, e3⟩
      rw [← hw]
      exact R3.wipe wn
    · cases e3
  · have e : i = ds.length := by omega
    subst e
    rw [List.drop_length] at hc
    unfold clLoop at hc
    cases hc
    exact .inl ⟨wl.walk.stops H gd, hn ys H R z r⟩
def allNo (s : S) (vs : List Nat) : Bool := vs.all fun i => match s.rho[i]? with
  | some .no => true
  | _ => false
theorem allNo_at {s : S} {vs : List Nat} (h : allNo s vs = true) : ∀ i ∈ vs, s.rho[i]? = some .no := fun i hi => by
  have q := List.all_eq_true.mp h i hi
  split at q
  · assumption
  · cases q
def pFor (fi : Fa) (g : Fg) (ft : Fe) (vs : List Nat) (inner : Fp) : Fp := fun acc s => if allNo s vs = true then (fi s).bind fun (ds, s1) => clLoop g ft vs inner ds acc s1 else none
theorem snd_clause {E : Ev} {p : Addr} {wi : TI} {fi : Fa} {tg : TG} {g : Fg} {tt : TT} {ft : Fe} {t : L2.St → Hp → (Hp → Prop) → Prop} {inner : Fp} {vs : List Nat} (si : SndI E wi fi) (sg : SndGc E vs tg g) (st : SndT E tt ft) (sp : SndP E p t inner) :
    SndP E p (fun σ H Nx => (∀ i ∈ vs, σ[i]? = some none) ∧ tClause wi tg tt t vs σ H Nx) (pFor fi g ft vs inner) := by
  intro G W σ H s xs acc acc' s' R ht rs hf Nx hn
  unfold pFor at hf
  split at hf
  · rename_i hno
    simp only [Option.bind_eq_some_iff] at hf
    obtain ⟨⟨ds, s1⟩, e1, e2⟩ := hf
    have hv : ∀ i ∈ vs, σ[i]? = some none := fun i hi => R.noc i (allNo_at hno i hi)
    have wn : Wn W vs := fun i hi => by
      cases q : W.ow i with
      | none => rfl
      | some a =>
        obtain ⟨_, _, _, d, h4⟩ := R.dom i a q
        rw [allNo_at hno i hi] at h4; cases h4
    have ew : L2.wipe σ vs = σ := wipe_none hv
    refine ⟨hv, si _ W σ H s ds s1 R e1 _ fun J H1 Gd Y R1 z1 wl => ?_⟩
    refine snd_turns (G := G) sg st sp wl Fz.refl (by rw [ew]; exact R1) ht wn (rs.fz z1) e2 fun ys H' R' z' r' => ?_
    rw [ew] at R'
    exact hn ys H' R' (z1.trans z') r'
  · cases hf
end Fx
-- Fx13
namespace Fx
open PySem PySem.Spec L2
/-- the state behind a comprehension: its own names are as they were -/
def S.mix (s1 s2 : S) (vs : List Nat) : S := ⟨s2.rho.mapIdx fun j c => if j ∈ vs then s1.rho.getD j .no else c, s2.tw⟩
def noOwn (s : S) (vs : List Nat) : Bool := vs.all fun i => match s.rho[i]? with
  | some (.own _) => false
  | some .tn => false
  | some .rw => false
  | some (.pln _) => false
  | _ => true
theorem noOwn_at {s : S} {vs : List Nat} (h : noOwn s vs = true) {i : Nat} (hi : i ∈ vs) : (∀ d, s.rho[i]? ≠ some (.own d)) ∧ s.rho[i]? ≠ some .tn ∧ s.rho[i]? ≠ some .rw := by
  have q := List.all_eq_true.mp h i hi
  refine ⟨fun d z => ?_, fun z => ?_, fun z => ?_⟩ <;> rw [z] at q <;> cases q
theorem noOwn_pln {s : S} {vs : List Nat} (h : noOwn s vs = true) {i : Nat} (hi : i ∈ vs) (d : D) : s.rho[i]? ≠ some (.pln d) := fun z => by
  have q := List.all_eq_true.mp h i hi
  rw [z] at q; cases q
theorem mix_get {s1 s2 : S} {vs : List Nat} {j : Nat} (hl : s1.rho.length = s2.rho.length) : (s1.mix s2 vs).rho[j]? = if j ∈ vs then s1.rho[j]? else s2.rho[j]? := by
  show (s2.rho.mapIdx _)[j]? = _
  rw [List.getElem?_mapIdx]
  by_cases h : j < s2.rho.length
  · rw [List.getElem?_eq_getElem h]
    have h1 : j < s1.rho.length := by rw [hl]; exact h
    by_cases m : j ∈ vs
    · simp [m, List.getElem?_eq_getElem h1]
    · simp [m]
  · have h1 : ¬ j < s1.rho.length := by rw [hl]; exact h
    rw [List.getElem?_eq_none (Nat.le_of_not_lt h), List.getElem?_eq_none (Nat.le_of_not_lt h1)]
    simp
section
variable {E : Ev} {G : Cfg} {W : Wt} {H1 H2 : Hp} {σ : L2.St} {s1 s2 : S} {p : Addr} {vs : List Nat}
theorem Rel.mix (R1 : Rel E G W H1 σ s1) (R2 : Rel E (G.bar p) W H2 (L2.wipe σ vs) s2) (hv : noOwn s1 vs = true) (z : Fz (Av G W) (Av (G.bar p) W) H1 H2) : Rel E (G.bar p) W H2 σ (s1.mix s2 vs) := by
  have hl : s1.rho.length = s2.rho.length := by rw [R1.len, R2.len, wipe_length]
  have key : ∀ {j : Nat} {c : C}, (s1.mix s2 vs).rho[j]? = some c → (j ∈ vs ∧ s1.rho[j]? = some c) ∨ (j ∉ vs ∧ s2.rho[j]? = some c ∧ (L2.wipe σ vs)[j]? = σ[j]?) := fun {j c} q => by
    rw [mix_get hl] at q
    by_cases m : j ∈ vs
    · rw [if_pos m] at q; exact .inl ⟨m, q⟩
    · rw [if_neg m] at q; exact .inr ⟨m, q, by rw [wipe_at, if_neg m]⟩
  exact {
    len := by show (s2.rho.mapIdx _).length = _; rw [List.length_mapIdx, ← hl, R1.len]
    fr := R2.fr
    val := fun j d q => by
      rcases key q with ⟨m, q⟩ | ⟨m, q, w⟩
      · obtain ⟨v, e1, e2⟩ := R1.val j d q
        exact ⟨v, e1, e2.fz z⟩
      · rw [← w]; exact R2.val j d q
    own := fun j d q => by
      rcases key q with ⟨m, q⟩ | ⟨m, q, w⟩
      · exact absurd q ((noOwn_at hv m).1 d)
      · rw [← w]; exact R2.own j d q
    dom := fun j a q => by
      obtain ⟨h1, h2, h3, d, h4⟩ := R2.dom j a q
      refine ⟨h1, h2, h3, d, ?_⟩
      rw [mix_get hl]
      by_cases m : j ∈ vs
      · obtain ⟨_, _, _, d', h4'⟩ := R1.dom j a q
        exact absurd h4' ((noOwn_at hv m).1 d')
      · rw [if_neg m]; exact h4
    inj := R2.inj
    obj := R2.obj
    tow := R2.tow
    tnc := fun j q => by
      rcases key q with ⟨m, q⟩ | ⟨m, q, w⟩
      · exact absurd q (noOwn_at hv m).2.1
      · rw [← w]; exact R2.tnc j q
    rwc := fun j q => by
      rcases key q with ⟨m, q⟩ | ⟨m, q, w⟩
      · exact absurd q (noOwn_at hv m).2.2
      · rw [← w]; exact R2.rwc j q
    noc := fun j q => by
      rcases key q with ⟨m, q⟩ | ⟨m, q, w⟩
      · exact R1.noc j q
      · rw [← w]; exact R2.noc j q
    ptc := fun j q => by
      rcases key q with ⟨m, q⟩ | ⟨m, q, w⟩
      · exact R1.ptc j q
      · rw [← w]; exact R2.ptc j q
    pl := R2.pl
    plc := fun j d q => by
      rcases key q with ⟨m, q⟩ | ⟨m, q, w⟩
      · exact absurd q (noOwn_pln hv m d)
      · exact (R2.plc j d q).step Fz.refl (fun _ _ _ e => e) w.symm }
end
def eComp (fi : Fa) (g : Fg) (ft : Fe) (vs : List Nat) (inner : Fp) : Fe := fun s => (fi s).bind fun (ds, s1) => if noOwn s1 vs = true then (clLoop g ft vs inner ds [] (s1.wipe vs)).map fun (acc, s2) => (.list acc, s1.mix s2 vs) else none
theorem snd_comp {E : Ev} {wi : TI} {fi : Fa} {tg : Blk → TG} {g : Fg} {tt : Blk → TT} {ft : Fe} {t : Blk → Addr → L2.St → Hp → (Hp → Prop) → Prop} {inner : Fp} {vs : List Nat} (si : SndI E wi fi) (sg : ∀ b, SndGc E vs (tg b) g) (st : ∀ b, SndT E (tt b) ft) (sp : ∀ b p, SndP E p (t b p) inner) :
    SndF E (tCompL wi tg tt t vs) (eComp fi g ft vs inner) := by
  intro G W σ H s d s' R hf Q hq
  unfold eComp at hf
  simp only [Option.bind_eq_some_iff] at hf
  obtain ⟨⟨ds, s1⟩, e1, e2⟩ := hf
  dsimp only at e2
  split at e2
  · rename_i hno
    simp only [Option.map_eq_some_iff] at e2
    obtain ⟨⟨acc, s2⟩, e3, e4⟩ := e2
    cases e4
    refine si G W σ H s ds s1 R e1 _ fun J H1 Gd Y R1 z1 wl p hp b => ?_
    have hp0 : H p = none := none_back R z1 R1.there hp
    have ht : ¬ TownA W p := fun z => R1.free hp (.inr (.inr z))
    have wn : Wn W vs := fun i hi => by
      cases q : W.ow i with
      | none => rfl
      | some a =>
        obtain ⟨_, _, _, d, h4⟩ := R1.dom i a q
        exact absurd h4 ((noOwn_at hno hi).1 d)
    have R2 : Rel E (G.lay p (.lst [])) W (upd H1 p (.lst [])) (L2.wipe σ vs) (s1.wipe vs) := (R1.to_lay (o := .lst []) hp).wipe wn
    have z2 : Fz (Av G W) (Av (G.bar p) W) H1 (upd H1 p (.lst [])) := Fz.laid hp G W
    refine snd_turns (G := G) (sg b) (st b) (sp b p) wl z2 R2 ht wn .nil e3 fun ys H' R' z' r' => ?_
    have e0 : G.H0 p = none := R1.fresh0 hp
    refine hq p H' hp0 (R1.mix (R'.of_lay e0) hno (z2.trans z')) (z1.trans (z2.trans z')) ⟨ys, R'.at_lay ht, r'⟩
  · cases e2
/-! ### derivations -/
structure VP (Y : Cx) (e : Expr) (gens : List Comprehension) (elt : Expr) (d : Nat) (f : Fp) : Prop where
  ex : ∀ p : Addr, ∃ t, PL Y e gens (emitL elt) (.ref p) d t ∧ SndP (evX Y) p t f
structure VTs (Y : Cx) (ifs : List Expr) (f : Fe) : Prop where
  ex : ∃ t, PTs Y ifs t ∧ SndT (evX Y) t f
structure VGe (Y : Cx) (vs : List Nat) (tg : Expr) (g : Fg) : Prop where
  ex : ∃ t, VGc Y vs tg t g
structure VGes (Y : Cx) (vs : List Nat) (tg : List Expr) (g : List D → S → Option S) : Prop where
  ex : ∃ t, VGcs Y vs tg t g
section
variable {Y X : Cx} {e elt tg iter : Expr} {es ifs : List Expr} {gens rest : List Comprehension} {d : Nat} {f ft : Fe} {fi : Fa} {g : Fg} {gs : List D → S → Option S} {vs : List Nat} {inner : Fp} {scope : Scope} {own : List (Str × Nat)} {pos p' spos : Pos} {c : Expr}
theorem vge_name (i : Nat) {x : Str} (hN : X.N.Nodup) (hm : i ∈ vs := by decide) (hi : X.N[i]? = some x := by rfl) (hx : Loc X.env.scope x := by first | exact Or.inl rfl | exact Or.inr rfl) (hf : X.fn x = true ∨ X.env.scope.names.lookup x = some .local := by first | exact .inl rfl | exact .inr rfl) : VGe X vs (.Name x pos) (gNm i) := ⟨_, vgc_name i hN hm hi hx hf⟩
theorem vges_nil : VGes X vs [] gsNil := ⟨_, vgcs_nil⟩
theorem vges_cons (h : VGe X vs e g) (hr : VGes X vs es gs) (hs : (assignEach (e :: es) X.env).map (·.2) = assign e X.env :: (assignEach es X.env).map (·.2) := by rfl) : VGes X vs (e :: es) (gsCons g gs) :=
  let ⟨t, a⟩ := h.ex; let ⟨u, b⟩ := hr.ex; ⟨_, vgcs_cons a b hs⟩
theorem vge_tup {k n : Nat} (hc : X.calm = true) (h : VGes X vs es gs) (hn : (assignEach es X.env).length = n := by rfl) (hst : (assignEach es X.env).findIdx? (·.1) = none := by rfl) : VGe X vs (.Tuple es k pos) (gTp n gs) :=
  let ⟨u, b⟩ := h.ex; ⟨_, vgc_tup hc b hn hst⟩
theorem vts_nil : VTs X [] (eC (.bool true)) := ⟨_, pts_nil, fun G W σ H s b s' R hf Q hq => by cases hf; exact hq H R Fz.refl⟩
theorem vts_one (h : VT X c f) : VTs X [c] f := let ⟨t, p, sn⟩ := h.ex; ⟨t, pts_one p, sn⟩
theorem vp_emit (hx : Y.xe = FF) (he : VE Y elt f) (hd : gens[d]? = none := by rfl) : VP Y e gens elt d (pEmit f) := ⟨fun p => let ⟨_, pe, sn⟩ := he.ex; ⟨_, pl_emitL hx hd pe, snd_emit sn⟩⟩
theorem vp_for (k : CmpK e gens (emitL elt)) (hx : Y.xe = FF) (hc : Y.calm = true) (hi : VI Y tg iter fi) (hg : VGe Y vs tg g) (ht : VTs Y ifs ft) (hr : VP Y e gens elt (d + 1) inner) (hd : gens[d]? = some ⟨tg, iter, ifs, 0⟩ := by rfl) (hs : ∀ x, foldedSetIterable iter Y.env x = pure x := by intro _; rfl) : VP Y e gens elt d (pFor fi g ft vs inner) := by
  refine ⟨fun p => ?_⟩
  obtain ⟨wi, pi, si⟩ := hi.ex
  obtain ⟨tt, pt, st⟩ := ht.ex
  obtain ⟨t, pl, sl⟩ := hr.ex p
  obtain ⟨tg', pg⟩ := hg.ex
  exact ⟨_, pl_clause k hx hc hd pi pg.p pt hs pl, snd_clause si pg.s st sl⟩
/-- what a block needs -/
structure BlkV (Y : Cx) (tg : Expr) (ifs : List Expr) (e : Expr) (gens : List Comprehension) (elt : Expr) (vs : List Nat) (g : Fg) (ft : Fe) (inner : Fp) : Prop where
  hg : VGe Y vs tg g
  ht : VTs Y ifs ft
  hr : VP Y e gens elt 1 inner
theorem vf_comp (hc : X.calm = true) (hN : X.N.Nodup) (ok : BlkOk X.N X.env.scope scope own) (hi : VI X tg iter fi)
    (hb : ∀ b : Blk, BlkV (blkAt X scope b) tg ifs (.ListComp elt (⟨tg, iter, ifs, 0⟩ :: rest) scope pos) (⟨tg, iter, ifs, 0⟩ :: rest) elt (own.map (·.2)) g ft inner) (ha : ∀ c ∈ rest, c.is_async = 0 := by decide) (hs : ∀ x, foldedSetIterable iter X.env x = pure x := by intro _; rfl) :
    VF X (.ListComp elt (⟨tg, iter, ifs, 0⟩ :: rest) scope pos) (eComp fi g ft (own.map (·.2)) inner) := by
  obtain ⟨wi, pi, si⟩ := hi.ex
  have a1 : ∀ b, ∃ t, VGc (blkAt X scope b) (own.map (·.2)) tg t g := fun b => (hb b).hg.ex
  have a2 : ∀ b, ∃ t, PTs (blkAt X scope b) ifs t ∧ SndT (evX X) t ft := fun b => (hb b).ht.ex
  have a3 : ∀ b, ∀ p, ∃ t, PL (blkAt X scope b) (.ListComp elt (⟨tg, iter, ifs, 0⟩ :: rest) scope pos) (⟨tg, iter, ifs, 0⟩ :: rest) (emitL elt) (.ref p) 1 t ∧ SndP (evX X) p t inner := fun b => (hb b).hr.ex
  refine ⟨_, pe_comp ha hc hN pi ok (fun b => (a1 b).choose_spec.p) (fun b => (a2 b).choose_spec.1) (fun b p => (a3 b p).choose_spec.1) hs, ?_⟩
  exact snd_comp si (fun b => (a1 b).choose_spec.s) (fun b => (a2 b).choose_spec.2) (fun b p => (a3 b p).choose_spec.2)
/-- y = [..], where the list is put to y ahead of the names' return -/
theorem ps_setComp {i : Nat} {y : Str} {py : Pos} {wi : TI} {g : Blk → TG} {tt : Blk → TT} {t : Blk → Addr → L2.St → Hp → (Hp → Prop) → Prop} (hc : X.calm = true) (hN : X.N.Nodup) (hy : X.N[i]? = some y) (hyl : X.env.scope.names.lookup y = some .local)
    (hsw : swapsWith (.ListComp elt (⟨tg, iter, ifs, 0⟩ :: rest) scope pos) (some (.Name y py)) spos.line X.env = pure true) (ha : ∀ c ∈ rest, c.is_async = 0) (hi : PI X tg iter wi) (ok : BlkOk X.N X.env.scope scope own) (hg : AtBlk X scope fun b Y => PG Y tg (g b)) (ht : AtBlk X scope fun b Y => PTs Y ifs (tt b))
    (hr : AtBlk X scope fun b Y => ∀ p, PL Y (.ListComp elt (⟨tg, iter, ifs, 0⟩ :: rest) scope pos) (⟨tg, iter, ifs, 0⟩ :: rest) (emitL elt) (.ref p) 1 (t b p)) (hs : ∀ x, foldedSetIterable iter X.env x = pure x) :
    PS X (.Assign [.Name y py] (.ListComp elt (⟨tg, iter, ifs, 0⟩ :: rest) scope pos) spos) (tAsg (tCompL wi g tt t (own.map (·.2))) (gName i)) := by
  refine ⟨fun pins s σ H D I h => ?_⟩
  rw [exec_Assign_Name_used _ _ _ _ hsw]
  refine wpAny_bind (wpAny_standAt (wpAny_bind ?_))
  show wpAny _ X.A (do let _ ← comprehension (.ListComp elt (⟨tg, iter, ifs, 0⟩ :: rest) scope pos) scope X.env (firstIterPos (⟨tg, iter, ifs, 0⟩ :: rest) pos) (newList []) false (eval iter X.env) (some (assign (.Name y py) X.env))) _ _ s
  have h : tCompL wi g tt t (own.map (·.2)) σ H (fun x H1 => gName i x σ H1 D.nx) := h
  refine wpAny_bind (thn (comp_core (Qf := fun _ s' => SP X pins D .next s') (cmpL elt _ scope pos (fun c hc => ?_)) hc hN I hi ok hg ht hr hs h fun L C s' m H' I' q hn f => ?_) fun _ s' hq => wpAny_pure (wpAny_pure hq))
  · rcases List.mem_cons.mp hc with rfl | hc
    · rfl
    · exact ha c hc
  show wpAny _ _ (assign (.Name y py) X.env (.ref L)) _ _ _
  refine wpAny_assign_Name (store_ok2 (v := V.ref L) I' hN hy (.inl hyl) rfl (fun s2 I2 ⟨a, sb, ha⟩ => ?_) (.inr hyl))
  obtain ⟨f0, f1, f2, f3, f4, f5⟩ := f
  have haC : C ≠ a := by
    rcases ha with z | z
    · rw [z]; exact f1
    · exact fun e => f4 y a z e.symm
  refine ⟨m, hn.sameBut sb haC, fun h3 sb3 => ?_⟩
  exact ⟨_, H', I2.turned (t' := s2.toks) (fun b o hb e => (sb3.2 b hb).trans e) f0 f1 f3 f4 f5, q⟩
theorem vs_setComp {i : Nat} {y : Str} {py : Pos} (hc : X.calm = true) (hN : X.N.Nodup) (ok : BlkOk X.N X.env.scope scope own) (hi : VI X tg iter fi)
    (hb : ∀ b : Blk, BlkV (blkAt X scope b) tg ifs (.ListComp elt (⟨tg, iter, ifs, 0⟩ :: rest) scope pos) (⟨tg, iter, ifs, 0⟩ :: rest) elt (own.map (·.2)) g ft inner)
    (hsw : swapsWith (.ListComp elt (⟨tg, iter, ifs, 0⟩ :: rest) scope pos) (some (.Name y py)) spos.line X.env = pure true)
    (hy : X.N[i]? = some y := by rfl) (hyl : X.env.scope.names.lookup y = some .local := by rfl) (ha : ∀ c ∈ rest, c.is_async = 0 := by decide) (hs : ∀ x, foldedSetIterable iter X.env x = pure x := by intro _; rfl) :
    VS X (.Assign [.Name y py] (.ListComp elt (⟨tg, iter, ifs, 0⟩ :: rest) scope pos) spos) (sSetF i (eComp fi g ft (own.map (·.2)) inner)) := by
  obtain ⟨wi, pi, si⟩ := hi.ex
  have a1 : ∀ b, ∃ t, VGc (blkAt X scope b) (own.map (·.2)) tg t g := fun b => (hb b).hg.ex
  have a2 : ∀ b, ∃ t, PTs (blkAt X scope b) ifs t ∧ SndT (evX X) t ft := fun b => (hb b).ht.ex
  have a3 : ∀ b, ∀ p, ∃ t, PL (blkAt X scope b) (.ListComp elt (⟨tg, iter, ifs, 0⟩ :: rest) scope pos) (⟨tg, iter, ifs, 0⟩ :: rest) (emitL elt) (.ref p) 1 t ∧ SndP (evX X) p t inner := fun b => (hb b).hr.ex
  refine ⟨_, ps_setComp hc hN hy hyl hsw ha pi ok (fun b => (a1 b).choose_spec.p) (fun b => (a2 b).choose_spec.1) (fun b p => (a3 b p).choose_spec.1) hs, ?_⟩
  exact snd_setF (snd_comp si (fun b => (a1 b).choose_spec.s) (fun b => (a2 b).choose_spec.2) (fun b p => (a3 b p).choose_spec.2))
end
end Fx
-- Fx14
namespace Fx
open PySem PySem.Spec L2
/-! ### defs -/
def st0 (n : Nat) (ds : List D) : S := ⟨ds.map .val ++ List.replicate (n - ds.length) .no, none⟩
def outV : Option (Fl × S) → Option D
  | some (.ret d, ⟨_, none⟩) => some d
  | some (.retF (.list ds), ⟨_, none⟩) => some (.list ds)
  | some (.next, ⟨_, none⟩) => some .none
  | _ => none
def outL : Option (Fl × S) → Option D
  | some (.retF d, ⟨_, none⟩) => some d
  | _ => none
def fnV (n : Nat) (F : Fs) (ds : List D) : Option D := outV (F (st0 n ds))
def fnL (n : Nat) (F : Fs) (ds : List D) : Option D := outL (F (st0 n ds))
abbrev W0 : Wt := { ow := fun _ => none, tn := none }
theorem av0 {H : Hp} {O : Addr → Prop} {a : Addr} (h : Av ⟨H, O, 0⟩ W0 a) : O a := by
  rcases h with h | ⟨i, h⟩ | ⟨t, h, _⟩ | ⟨i, q, h, _⟩
  · exact h
  · cases h
  · cases h
  · cases h
theorem rel0 {E : Ev} {H : Hp} {O : Addr → Prop} {vs : List V} {ds : List D} {N : List Str} (rs : Reps E O H vs ds) (fr : Fre O H) (hl : ds.length ≤ N.length) : Rel E ⟨H, O, 0⟩ W0 H (L2.start N vs) (st0 N.length ds) := by
  have key : ∀ {j : Nat} {c : C}, (st0 N.length ds).rho[j]? = some c → (j < ds.length ∧ ∃ d, ds[j]? = some d ∧ c = .val d) ∨ (ds.length ≤ j ∧ j < N.length ∧ c = .no) := fun {j c} q => by
    unfold st0 at q
    dsimp only at q
    by_cases h : j < ds.length
    · rw [List.getElem?_append_left (by simpa using h), List.getElem?_map] at q
      simp only [Option.map_eq_some_iff] at q
      obtain ⟨d, h1, h2⟩ := q
      exact .inl ⟨h, d, h1, h2.symm⟩
    · rw [List.getElem?_append_right (by simpa using Nat.le_of_not_lt h), List.getElem?_replicate] at q
      simp only [List.length_map] at q
      split at q
      · cases q
        exact .inr ⟨Nat.le_of_not_lt h, by omega, rfl⟩
      · cases q
  have sl : ∀ {j : Nat} {v : V}, vs[j]? = some v → (L2.start N vs)[j]? = some (some v) := fun {j v} q => by
    unfold L2.start
    have hj : j < vs.length := (List.getElem?_eq_some_iff.mp q).1
    rw [List.getElem?_append_left (by simpa using hj), List.getElem?_map, q]
    rfl
  have el : vs.length = ds.length := rs.length
  exact {
    len := by unfold st0 L2.start; simp [el]
    fr := fun a o e _ => e
    val := fun j d q => by
      rcases key q with ⟨hj, d', h1, h2⟩ | ⟨_, _, z⟩
      · cases h2
        obtain ⟨v, e1, e2⟩ := rs.get h1
        exact ⟨v, sl e1, e2.weak fun a z => av0 z⟩
      · cases z
    own := fun j d q => by
      rcases key q with ⟨hj, d', h1, h2⟩ | ⟨_, _, z⟩
      · cases h2
      · cases z
    dom := fun j a q => by cases q
    inj := fun j k a q => by cases q
    obj := fun a h => fr a h
    tow := trivial
    tnc := fun j q => by
      rcases key q with ⟨hj, d', h1, h2⟩ | ⟨_, _, z⟩
      · cases h2
      · cases z
    rwc := fun j q => by
      rcases key q with ⟨hj, d', h1, h2⟩ | ⟨_, _, z⟩
      · cases h2
      · cases z
    ptc := fun j q => by
      rcases key q with ⟨hj, d', h1, h2⟩ | ⟨_, _, z⟩
      · cases h2
      · cases z
    noc := fun j q => by
      rcases key q with ⟨hj, d', h1, h2⟩ | ⟨h1, h2, z⟩
      · cases h2
      · unfold L2.start
        rw [List.getElem?_append_right (by simp [el]; omega), List.getElem?_replicate, if_pos (by simp; omega)]
    pl := PlOk.no
    plc := fun j d q => by
      rcases key q with ⟨hj, d', h1, h2⟩ | ⟨_, _, z⟩
      · cases h2
      · cases z }
theorem left_none {E : Ev} {G : Cfg} {W : Wt} {H : Hp} {s : S} (l : Left E G W H s) (hs : s.tw = none) : W.tn = none := by
  have t := l.tow
  rw [hs] at t
  unfold TownOk at t
  split at t
  · assumption
  · rename_i e2; cases e2
  · exact t.elim
theorem post0V {E : Ev} {H : Hp} {O : Addr → Prop} {d : D} {Q : VK} {r : Option (Fl × S)} (h : outV r = some d) (q : ∀ v H', Same H H' → Rep E O H' v d → Q v H') : Post E ⟨H, O, 0⟩ W0 H { nx := fun _ H' => Q .non H', rt := Q } r := by
  have sm : ∀ {W' : Wt} {H' : Hp} {s : S}, Left E ⟨H, O, 0⟩ W' H' s → s.tw = none → Same H H' := fun {W' H' s} l hs a o e => l.fr a o e (l.pl.not (left_none l hs) e)
  have av : ∀ {W' : Wt} {a : Addr}, O a → AvR ⟨H, O, 0⟩ W' a := fun {W' a} z => .inl z
  unfold outV at h
  split at h
  · cases h
    exact fun W' v H' l _ rp => q v H' (sm l rfl) (rp.weak fun a z => av z)
  · cases h
    exact fun W' p H' l _ h0 hn tp => q _ H' (sm l rfl) (tp.rep (fun z => hn (av z)) fun x z => .inl (av z))
  · cases h
    exact fun W' σ' H' R _ _ => q _ H' (sm R.left rfl) .non
  · cases h
theorem post0L {E : Ev} {H : Hp} {O : Addr → Prop} {d : D} {Q : VK} {r : Option (Fl × S)} (h : outL r = some d) (q : ∀ p H', Same H H' → H p = none → Top E (fun a => O a ∨ a = p) H' p d → Q (.ref p) H') : Post E ⟨H, O, 0⟩ W0 H { nx := fun _ H' => Q .non H', rt := Q } r := by
  unfold outL at h
  split at h
  · cases h
    refine fun W' p H' l _ h0 hn tp => q p H' (fun a o e => l.fr a o e (l.pl.not (left_none l rfl) e)) h0 (tp.fz (Fz.weak fun a z => ?_) fun _ e => e)
    rcases z with z | z
    · exact .inl (.inl z)
    · exact .inr z
  · cases h
theorem ps_le {N ps : List Str} {sc : Scope} (S : FnScope N ps sc) : ps.length ≤ N.length := by
  have := congrArg List.length S.pre
  rw [List.length_take] at this
  omega
section
variable {P : Program} {w : World} {K : PySem.W.Frag} {mg : Str → Option Value} {base : Heap} {x qual : Str} {st : Stmt} {f : Addr} {fd : FuncData} {N ps : List Str} {k : Nat} {Fb : Fs}
/-- the context of a def's body -/
abbrev cxB (P : Program) (w : World) (K : PySem.W.Frag) (mg : Str → Option Value) (base : Heap) (N : List Str) (qual : Str) (st : Stmt) (f : Addr) (cdv : Value) (A : Around) (outer : List Env) (s : Shared) (H : Hp) (E : XK) : Cx := (cxOf CX0 P w K mg base N qual (defScope st) f cdv A outer s H E).nox
def BodyV (P : Program) (w : World) (K : PySem.W.Frag) (mg : Str → Option Value) (base : Heap) (N : List Str) (qual : Str) (st : Stmt) (f : Addr) (k : Nat) (Fb : Fs) : Prop := ∀ (cdv : Value) (A : Around) (outer : List Env) (s : Shared) (H : Hp) (E : XK), Room k (A.deeper (PyProof.Rows.envOfC qual (defScope st) s.heap.objs.size f cdv)) → VB (cxB P w K mg base N qual st f cdv A outer s H E) (defBody st) Fb
theorem fn_V (F : Fun K x qual st f fd) (S : FnScope N ps (defScope st)) (hb : BodyV P w K mg base N qual st f k Fb) : FnOk P w K mg base CX0 (k + 1) f fd ps (spV ⟨P, w, K⟩ ps.length (fnV N.length Fb)) := by
  refine F.ok S (fun vs H Q E h => spV_len vs H Q E h) fun cdv A outer s H vs Q E hr h => ?_
  obtain ⟨O, ds, d, hl, rs, fr, hg, hq⟩ := h
  obtain ⟨t, p, sn⟩ := (hb cdv A outer s H E hr).ex
  exact ⟨t, p, sn ⟨H, O, 0⟩ W0 _ H _ _ (rel0 rs fr (by rw [hl]; exact ps_le S)) (post0V hg hq)⟩
theorem fn_L (F : Fun K x qual st f fd) (S : FnScope N ps (defScope st)) (hb : BodyV P w K mg base N qual st f k Fb) : FnOk P w K mg base CX0 (k + 1) f fd ps (spL ⟨P, w, K⟩ ps.length (fnL N.length Fb)) := by
  refine F.ok S (fun vs H Q E h => spL_len vs H Q E h) fun cdv A outer s H vs Q E hr h => ?_
  obtain ⟨O, ds, d, hl, rs, fr, hg, hq⟩ := h
  obtain ⟨t, p, sn⟩ := (hb cdv A outer s H E hr).ex
  exact ⟨t, p, sn ⟨H, O, 0⟩ W0 _ H _ _ (rel0 rs fr (by rw [hl]; exact ps_le S)) (post0L hg hq)⟩
end
/-- a statement that is not reached -/
def sNo : Fs := fun _ => none
theorem vs_no {X : Cx} {st : Stmt} : VS X st sNo := ⟨fun _ _ _ => False, ⟨fun _ _ _ _ _ _ h => h.elim⟩, fun _ _ _ _ _ _ _ po => po.elim⟩
end Fx
-- Fx15
namespace Fx
open PySem PySem.Spec L2
/-! ### defs whose first argument is the town -/
abbrev Tw := List Int × Int
def spT (E : Ev) (n : Nat) (g : Tw → List D → Option (D × Tw)) : Sp := fun vs H Q _ => ∃ (O : Addr → Prop) (tl rl : Addr) (us : List V) (ds : List D) (tw tw' : Tw) (d : D), vs = .ref tl :: us ∧ ds.length = n ∧ O tl ∧ O rl ∧ TownOk (some (tl, rl)) H (some tw) ∧ Reps E O H us ds ∧ Fre O H ∧ g tw ds = some (d, tw') ∧
  ∀ v H', (∀ a o, H a = some o → a ≠ tl → a ≠ rl → H' a = some o) → TownOk (some (tl, rl)) H' (some tw') → Rep E O H' v d → Q v H'
theorem spT_len {E : Ev} {n : Nat} {g : Tw → List D → Option (D × Tw)} : ∀ vs H Q X, spT E n g vs H Q X → vs.length = n + 1 := fun vs H Q X ⟨_, _, _, us, ds, _, _, _, h0, h1, _, _, _, h2, _⟩ => by rw [h0, List.length_cons, h2.length, h1]
theorem Rel.town {E : Ev} {G : Cfg} {W : Wt} {H H' : Hp} {σ : L2.St} {s : S} {t : Addr × Addr} {tw' : Option Tw} (R : Rel E G W H σ s) (hw : W.tn = some t) (k : ∀ a o, H a = some o → a ≠ t.1 → a ≠ t.2 → H' a = some o) (ok : TownOk W.tn H' tw') : Rel E G W H' σ { s with tw := tw' } ∧ Fz (Av G W) (Av G W) H H' := by
  have nt : ∀ {a : Addr}, ¬ TownA W a → a ≠ t.1 ∧ a ≠ t.2 := fun {a} h => ⟨fun z => h (.inl ⟨t, hw, .inl z⟩), fun z => h (.inl ⟨t, hw, .inr z⟩)⟩
  have f : Fz (Av G W) (Av G W) H H' := fun a o n e => ⟨n, k a o e (nt fun z => n (.inr (.inr z))).1 (nt fun z => n (.inr (.inr z))).2⟩
  have kp : ∀ i q, W.mt i = some q → ∀ a o, (a = q.1 ∨ a = q.2) → H a = some o → H' a = some o := fun i q e a o z h => by
    obtain ⟨n1, n2, n3, n4⟩ := R.pl.nt i q t e hw
    rcases z with z | z
    · subst z; exact k _ o h n1 n2
    · subst z; exact k _ o h n3 n4
  refine ⟨{
    len := R.len
    fr := fun a o e h => k a o (R.fr a o e h) (nt h).1 (nt h).2
    val := fun i d h => let ⟨v, e, q⟩ := R.val i d h; ⟨v, e, q.fz f⟩
    own := fun i d h => by
      obtain ⟨a, e1, e2, q⟩ := R.own i d h
      obtain ⟨_, d1, _, _⟩ := R.dom i a e1
      exact ⟨a, e1, e2, q.fz f fun o e => k a o e (nt d1).1 (nt d1).2⟩
    dom := R.dom
    inj := R.inj
    obj := fun a h => by
      obtain ⟨o, e, n⟩ := R.obj a h
      by_cases z : TownA W a
      · have pk := R.pl.sameP kp
        rw [hw] at ok
        have ⟨row, m, _, _, h2, h3⟩ := TownOk.get (tl := t.1) (rl := t.2) ok
        obtain ⟨t', e', z⟩ | ⟨i, r, e', z⟩ := z
        case inr =>
          rcases z with z | z
          · rw [z]; exact (pk.ex i r e').1
          · rw [z]; exact (pk.ex i r e').2
        rw [hw] at e'; cases e'
        rcases z with z | z
        · rw [z]; exact ⟨_, h2, fun _ z => nomatch z⟩
        · rw [z]; exact ⟨_, h3, fun _ z => nomatch z⟩
      · exact ⟨o, k a o e (nt z).1 (nt z).2, n⟩
    tow := ok
    tnc := R.tnc
    rwc := R.rwc
    noc := R.noc
    ptc := R.ptc
    pl := R.pl.sameP kp
    plc := fun i d h => (R.plc i d h).stepP f kp }, f⟩
def eFnT (i : Nat) (n : Nat) (g : Tw → List D → Option (D × Tw)) (fa : Fa) : Fe := fun s => match s.rho[i]? with
  | some .tn => (fa s).bind fun (xs, s1) => s1.tw.bind fun tw => if xs.length = n then (g tw xs).map fun (z, tw') => (z, { s1 with tw := some tw' }) else none
  | _ => none
section
variable {X : Cx} {k n i : Nat} {f : Addr} {fd : FuncData} {ps : List Str} {g : Tw → List D → Option (D × Tw)} {x y : Str} {p p2 pos : Pos} {es : List Expr} {fa : Fa}
theorem ve_fnT (i : Nat) (F : FnOk X.prog X.w X.K X.mg X.base CX0 k f fd ps (spT (evX X) n g)) (hr : Room k X.A) (hg : Gl X x) (hm : X.mg x = some (.ref f)) (hk : PySem.W.keepIn X.K (.ref f) = true) (hb : Binds X.K fd ps []) (nv : NV X i y) (ha : VA X es fa) (hdb : (x == ("__debug__" : Str)) = false := by decide +kernel) (ns : NS X (.Name y p2) es pos := by exact ⟨rfl, rfl⟩) :
    VE X (.Call (.Name x p) (.Name y p2 :: es) [] pos) (eFnT i n g fa) := by
  obtain ⟨t, pa, sa⟩ := ha.ex
  refine ⟨_, pe_call F hr hg hm hk hb .nil pass0 (pa_cons (pe_var nv.hN nv.hv nv.hd nv.hcd) pa ns.he) hdb ns.he ns.hpl, ?_⟩
  intro G W σ H s d s' R hf Q hq
  unfold eFnT at hf
  split at hf
  · rename_i e0
    simp only [Option.bind_eq_some_iff] at hf
    obtain ⟨⟨xs, s1⟩, h1, tw, h2, h3⟩ := hf
    dsimp only at h2 h3
    split at h3
    · rename_i hl
      simp only [Option.map_eq_some_iff] at h3
      obtain ⟨⟨z, tw'⟩, h4, h5⟩ := h3
      cases h5
      obtain ⟨tl, rl, e1, e2⟩ := R.tnc i e0
      refine ⟨_, e2, sa G W σ H s xs s1 R h1 _ fun vs H1 R1 z1 p1 => ?_⟩
      have ok := R1.tow
      rw [e1, h2] at ok
      refine ⟨Av G W, tl, rl, vs, xs, tw, tw', _, by rw [List.append_nil], hl, .inr (.inr (.inl ⟨_, e1, .inl rfl⟩)), .inr (.inr (.inl ⟨_, e1, .inr rfl⟩)), ok, p1, R1.fre, h4, fun v H2 k ok2 p2 => ?_⟩
      obtain ⟨R2, z2⟩ := R1.town e1 (fun a o e n1 n2 => k a o e n1 n2) (tw' := some tw') (by rw [e1]; exact ok2)
      exact hq v H2 R2 (z1.trans z2) p2
    · cases h3
  · cases hf
end
/-- the state at the entry of such a def -/
def st0T (n : Nat) (tw : Tw) (ds : List D) : S := ⟨.tn :: (ds.map .val ++ List.replicate (n - (ds.length + 1)) .no), some tw⟩
def outT : Option (Fl × S) → Option (D × Tw)
  | some (.ret d, ⟨_, some tw⟩) => some (d, tw)
  | some (.retF (.list ds), ⟨_, some tw⟩) => some (.list ds, tw)
  | some (.next, ⟨_, some tw⟩) => some (.none, tw)
  | _ => none
def fnT (n : Nat) (F : Fs) (tw : Tw) (ds : List D) : Option (D × Tw) := outT (F (st0T n tw ds))
abbrev WT (t : Addr × Addr) : Wt := { ow := fun _ => none, tn := some t }
theorem rel0T {E : Ev} {H : Hp} {O : Addr → Prop} {tl rl : Addr} {us : List V} {ds : List D} {tw : Tw} {N : List Str} (rs : Reps E O H us ds) (fr : Fre O H) (ot : O tl) (or' : O rl) (ok : TownOk (some (tl, rl)) H (some tw)) (hl : ds.length + 1 ≤ N.length) : Rel E ⟨H, O, 0⟩ (WT (tl, rl)) H (L2.start N (.ref tl :: us)) (st0T N.length tw ds) := by
  have avT : ∀ a, Av ⟨H, O, 0⟩ (WT (tl, rl)) a → O a := fun a h => by
    rcases h with h | ⟨i, h⟩ | ⟨t, h, z⟩ | ⟨i, q, h, _⟩
    · exact h
    · cases h
    · cases h
      rcases z with z | z
      · rw [z]; exact ot
      · rw [z]; exact or'
    · cases h
  have el : us.length = ds.length := rs.length
  have key : ∀ {j : Nat} {c : C}, (st0T N.length tw ds).rho[j]? = some c → (j = 0 ∧ c = .tn) ∨ (∃ i d, j = i + 1 ∧ ds[i]? = some d ∧ c = .val d) ∨ (ds.length + 1 ≤ j ∧ j < N.length ∧ c = .no) := fun {j c} q => by
    unfold st0T at q
    dsimp only at q
    cases j with
    | zero => simp only [List.getElem?_cons_zero, Option.some.injEq] at q; exact .inl ⟨rfl, q.symm⟩
    | succ j =>
      simp only [List.getElem?_cons_succ] at q
      by_cases h : j < ds.length
      · rw [List.getElem?_append_left (by simpa using h), List.getElem?_map] at q
        simp only [Option.map_eq_some_iff] at q
        obtain ⟨d, h1, h2⟩ := q
        exact .inr (.inl ⟨j, d, rfl, h1, h2.symm⟩)
      · rw [List.getElem?_append_right (by simpa using Nat.le_of_not_lt h), List.getElem?_replicate] at q
        simp only [List.length_map] at q
        split at q
        · cases q
          exact .inr (.inr ⟨by omega, by omega, rfl⟩)
        · cases q
  exact {
    len := by unfold st0T L2.start; simp [el]
    fr := fun a o e _ => e
    val := fun j d q => by
      rcases key q with ⟨_, z⟩ | ⟨i, d', rfl, h1, h2⟩ | ⟨_, _, z⟩
      · cases z
      · cases h2
        obtain ⟨v, e1, e2⟩ := rs.get h1
        refine ⟨v, ?_, e2.weak avT⟩
        unfold L2.start
        have hj : i < us.length := (List.getElem?_eq_some_iff.mp e1).1
        rw [List.map_cons, List.cons_append, List.getElem?_cons_succ, List.getElem?_append_left (by simpa using hj), List.getElem?_map, e1]
        rfl
      · cases z
    own := fun j d q => by
      rcases key q with ⟨_, z⟩ | ⟨i, d', _, _, z⟩ | ⟨_, _, z⟩ <;> cases z
    dom := fun j a q => by cases q
    inj := fun j k a q => by cases q
    obj := fun a h => fr a h
    tow := ok
    tnc := fun j q => by
      rcases key q with ⟨rfl, z⟩ | ⟨i, d', _, _, z⟩ | ⟨_, _, z⟩
      · exact ⟨tl, rl, rfl, rfl⟩
      · cases z
      · cases z
    rwc := fun j q => by
      rcases key q with ⟨_, z⟩ | ⟨i, d', _, _, z⟩ | ⟨_, _, z⟩ <;> cases z
    ptc := fun j q => by
      rcases key q with ⟨_, z⟩ | ⟨i, d', _, _, z⟩ | ⟨_, _, z⟩ <;> cases z
    noc := fun j q => by
      rcases key q with ⟨_, z⟩ | ⟨i, d', _, _, z⟩ | ⟨h1, h2, z⟩
      · cases z
      · cases z
      · unfold L2.start
        rw [List.getElem?_append_right (by simp [el]; omega), List.getElem?_replicate, if_pos (by simp; omega)]
    pl := PlOk.no
    plc := fun j d q => by
      rcases key q with ⟨_, z⟩ | ⟨i, d', _, _, z⟩ | ⟨_, _, z⟩ <;> cases z }
theorem post0T {E : Ev} {H : Hp} {O : Addr → Prop} {tl rl : Addr} {d : D} {tw' : Tw} {Q : VK} {r : Option (Fl × S)} (ot : O tl) (or' : O rl) (h : outT r = some (d, tw')) (q : ∀ v H', (∀ a o, H a = some o → a ≠ tl → a ≠ rl → H' a = some o) → TownOk (some (tl, rl)) H' (some tw') → Rep E O H' v d → Q v H') : Post E ⟨H, O, 0⟩ (WT (tl, rl)) H { nx := fun _ H' => Q .non H', rt := Q } r := by
  have sm : ∀ {W' : Wt} {H' : Hp} {s : S}, Left E ⟨H, O, 0⟩ W' H' s → WkR s (WT (tl, rl)) W' → (∀ a o, H a = some o → a ≠ tl → a ≠ rl → H' a = some o) ∧ TownOk (some (tl, rl)) H' s.tw := fun {W' H' s} l wk => by
    have e := wk.1 _ rfl
    refine ⟨fun a o e1 n1 n2 => l.fr a o e1 fun z => ?_, by have := l.tow; rw [e] at this; exact this⟩
    obtain ⟨t, z, y⟩ | ⟨i, q, z, y⟩ := z
    · rw [e] at z; cases z
      rcases y with y | y
      · exact n1 y
      · exact n2 y
    · have f1 : H q.1 = none := (l.pl.fr i q z).1
      have f2 : H q.2 = none := (l.pl.fr i q z).2
      have e1' : H a = some o := e1
      rcases y with rfl | rfl
      · rw [f1] at e1'; cases e1'
      · rw [f2] at e1'; cases e1'
  have av : ∀ {W' : Wt} {a : Addr}, O a → AvR ⟨H, O, 0⟩ W' a := fun {W' a} z => .inl z
  unfold outT at h
  split at h
  · cases h
    exact fun W' v H' l wk rp => q v H' (sm l wk).1 (sm l wk).2 (rp.weak fun a z => .inl z)
  · cases h
    exact fun W' p H' l wk h0 hn tp => q _ H' (sm l wk).1 (sm l wk).2 (tp.rep (fun z => hn (.inl z)) fun x z => .inl (.inl z))
  · cases h
    exact fun W' σ' H' R _ wk => q _ H' (sm R.left wk.r).1 (sm R.left wk.r).2 .non
  · cases h
section
variable {P : Program} {w : World} {K : PySem.W.Frag} {mg : Str → Option Value} {base : Heap} {x qual : Str} {st : Stmt} {f : Addr} {fd : FuncData} {N ps : List Str} {k n : Nat} {Fb : Fs}
theorem fn_T (F : Fun K x qual st f fd) (S : FnScope N ps (defScope st)) (hn : ps.length = n + 1) (hb : BodyV P w K mg base N qual st f k Fb) : FnOk P w K mg base CX0 (k + 1) f fd ps (spT ⟨P, w, K⟩ n (fnT N.length Fb)) := by
  refine F.ok S (fun vs H Q E h => by rw [hn]; exact spT_len vs H Q E h) fun cdv A outer s H vs Q E hr h => ?_
  obtain ⟨O, tl, rl, us, ds, tw, tw', d, rfl, hl, ot, or', ok, rs, fr, hg, hq⟩ := h
  obtain ⟨t, p, sn⟩ := (hb cdv A outer s H E hr).ex
  have := ps_le S
  exact ⟨t, p, sn ⟨H, O, 0⟩ (WT (tl, rl)) _ H _ _ (rel0T rs fr ot or' ok (by omega)) (post0T ot or' hg hq)⟩
end
end Fx
-- Fx16
namespace Fx
open PySem PySem.Spec L2
/-! ### the town's own lines -/
def eTw1 (i : Nat) : Fe := fun s => match s.rho[i]?, s.tw with
  | some .tn, some (_, n) => some (.int n, s)
  | _, _ => none
def eRowLen (j : Nat) : Fe := fun s => match s.rho[j]?, s.tw with
  | some .rw, some (row, _) => some (.int (row.length : Nat), s)
  | _, _ => none
def eRowAt (j : Nat) (f : Fe) : Fe := fun s => match s.rho[j]? with
  | some .rw => (f s).bind fun (y, s1) => match y, s1.tw with
    | .int k, some (row, _) => (atI row k).map fun z => (.int z, s1)
    | _, _ => none
  | _ => none
def sRow (i j : Nat) : Fs := fun s => match s.rho[i]?, s.rho[j]? with
  | some .tn, some (.own _) => none
  | some .tn, _ => some (.next, s.put j .rw)
  | _, _ => none
def sTw1 (i : Nat) (f : Fe) : Fs := fun s => (f s).bind fun (y, s1) => match s1.rho[i]?, y, s1.tw with
  | some .tn, .int n, some (row, _) => some (.next, { s1 with tw := some (row, n) })
  | _, _, _ => none
def sRowSet (j : Nat) (f g : Fe) : Fs := fun s => (g s).bind fun (z, s1) => match s1.rho[j]? with
  | some .rw => (f s1).bind fun (y, s2) => match z, y, s2.tw with
    | .int v, .int k, some (row, n) => (ixN row.length k).map fun m => (.next, { s2 with tw := some (row.set m v, n) })
    | _, _, _ => none
  | _ => none
theorem Rel.putRw {E : Ev} {G : Cfg} {W : Wt} {H : Hp} {σ : L2.St} {s : S} {j : Nat} {tl rl : Addr} (R : Rel E G W H σ s) (hw : W.tn = some (tl, rl)) (hj : W.ow j = none) : Rel E G W H (σ.set j (some (.ref rl))) (s.put j .rw) where
  len := by simp [S.put, R.len]
  fr := R.fr
  val := fun i d h => by
    rcases put_get h with ⟨rfl, e, hl⟩ | ⟨hi, h⟩
    · cases e
    · rw [set_ne hi]; exact R.val i d h
  own := fun i d h => by
    rcases put_get h with ⟨rfl, e, hl⟩ | ⟨hi, h⟩
    · cases e
    · rw [set_ne hi]; exact R.own i d h
  dom := fun i a h => by
    obtain ⟨h1, h2, h3, d, h4⟩ := R.dom i a h
    have hi : i ≠ j := fun z => by rw [z, hj] at h; cases h
    exact ⟨h1, h2, h3, d, by simp [S.put, List.getElem?_set_ne (Ne.symm hi), h4]⟩
  inj := R.inj
  obj := R.obj
  tow := R.tow
  tnc := fun i h => by
    rcases put_get h with ⟨rfl, e, hl⟩ | ⟨hi, h⟩
    · cases e
    · rw [set_ne hi]; exact R.tnc i h
  rwc := fun i h => by
    rcases put_get h with ⟨rfl, e, hl⟩ | ⟨hi, h⟩
    · exact ⟨tl, rl, hw, by rw [R.len] at hl; simp [hl]⟩
    · rw [set_ne hi]; exact R.rwc i h
  noc := fun i h => by
    rcases put_get h with ⟨rfl, e, hl⟩ | ⟨hi, h⟩
    · cases e
    · rw [set_ne hi]; exact R.noc i h
  ptc := fun i h => by
    rcases put_get h with ⟨rfl, e, hl⟩ | ⟨hi, h⟩
    · cases e
    · rw [set_ne hi]; exact R.ptc i h
  pl := R.pl
  plc := fun i d h => by
    rcases put_get h with ⟨rfl, e, hl⟩ | ⟨hi, h⟩
    · cases e
    · exact (R.plc i d h).step Fz.refl (fun _ _ _ e => e) (set_ne hi)
section
variable {X : Cx} {i j : Nat} {x y : Str} {p p1 p2 p3 pos : Pos} {e b : Expr} {f g : Fe} {k0 : Nat}
theorem ve_tw1 (i : Nat) (nv : NV X i x) (hs : PlainIx (.Constant (.int 1) k0 p2) := by exact fun _ _ => rfl) : VE X (.Subscript (.Name x p) (.Constant (.int 1) k0 p2) pos) (eTw1 i) := by
  refine ⟨_, pe_ix ix_list (pe_var nv.hN nv.hv nv.hd nv.hcd) pe_int hs, ?_⟩
  intro G W σ H s d s' R hf Q hq
  unfold eTw1 at hf
  split at hf
  · rename_i row n e1 e2
    cases hf
    obtain ⟨tl, rl, h1, h2⟩ := R.tnc i e1
    have ok := R.tow
    rw [h1, e2] at ok
    exact ⟨_, h2, tl, [.ref rl, .int n], 1, .int n, rfl, rfl, SqL.of ok.2.1, rfl, hq _ H R Fz.refl (.int n)⟩
  · cases hf
theorem ve_rowLen (j : Nat) (nv : NV X j x) (hg : Gl X "len") (hm : X.mg "len" = none) (ns : NS X (.Name x p) [] pos) : VE X (.Call (.Name "len" p2) [.Name x p] [] pos) (eRowLen j) := by
  refine ⟨_, pe_callB call_len_seq hg hm PySem.boot_len (pa_cons (pe_var nv.hN nv.hv nv.hd nv.hcd) pa_nil ns.he) (by decide) (by decide) ns.he ns.hpl, ?_⟩
  intro G W σ H s d s' R hf Q hq
  unfold eRowLen at hf
  split at hf
  · rename_i row n e1 e2
    cases hf
    obtain ⟨tl, rl, h1, h2⟩ := R.rwc j e1
    have ok := R.tow
    rw [h1, e2] at ok
    refine ⟨_, h2, rl, row.map .int, rfl, .inl (SqL.of ok.2.2), ?_⟩
    rw [List.length_map]
    exact hq _ H R Fz.refl (.int _)
  · cases hf
theorem atI_map {α β : Type} (h : α → β) (xs : List α) (k : Int) : atI (xs.map h) k = (atI xs k).map h := by
  unfold atI
  rw [List.length_map]
  cases ixN xs.length k with
  | none => rfl
  | some m => simp
theorem ve_rowAt (j : Nat) (nv : NV X j x) (hb : VE X b f) (hs : PlainIx b := by exact fun _ _ => rfl) : VE X (.Subscript (.Name x p) b pos) (eRowAt j f) := by
  obtain ⟨t, pt, sn⟩ := hb.ex
  refine ⟨_, pe_ix ix_list (pe_var nv.hN nv.hv nv.hd nv.hcd) pt hs, ?_⟩
  intro G W σ H s d s' R hf Q hq
  unfold eRowAt at hf
  split at hf
  · rename_i e1
    simp only [Option.bind_eq_some_iff] at hf
    obtain ⟨⟨y, s1⟩, e2, e3⟩ := hf
    dsimp only at e3
    split at e3
    · rename_i k row n e4
      simp only [Option.map_eq_some_iff] at e3
      obtain ⟨z, e5, e6⟩ := e3
      cases e6
      obtain ⟨tl, rl, h1, h2⟩ := R.rwc j e1
      refine ⟨_, h2, sn G W σ H s _ _ R e2 _ fun v H1 R1 z1 p1 => ?_⟩
      have ok := R1.tow
      rw [h1, e4] at ok
      cases p1
      exact ⟨rl, row.map .int, k, .int z, rfl, rfl, SqL.of ok.2.2, by rw [atI_map, e5]; rfl, hq _ H1 R1 z1 (.int z)⟩
    · cases e3
  · cases hf
theorem vs_row (i j : Nat) (nv : NV X i x) (hN : X.N.Nodup) (hi : X.N[j]? = some y := by rfl) (hx : Loc X.env.scope y := by first | exact Or.inl rfl | exact Or.inr rfl) (hs0 : PlainIx (.Constant (.int 0) k0 p2) := by exact fun _ _ => rfl)
    (hs : swapsWith (.Subscript (.Name x p) (.Constant (.int 0) k0 p2) p3) (some (.Name y p1)) pos.line X.env = pure false := by rfl) (hf : X.fn y = true ∨ X.env.scope.names.lookup y = some .local := by first | exact .inl rfl | exact .inr rfl) :
    VS X (.Assign [.Name y p1] (.Subscript (.Name x p) (.Constant (.int 0) k0 p2) p3) pos) (sRow i j) := by
  refine ⟨_, ps_set hN hi hx (pe_ix ix_list (pe_var nv.hN nv.hv nv.hd nv.hcd) pe_int hs0) hs hf, fun G W σ H s Dn R po => ?_⟩
  unfold sRow at po
  have fin : s.rho[i]? = some .tn → W.ow j = none → Post (evX X) G W H Dn (some (.next, s.put j .rw)) → tAsg (tOp (rIxL X.K) (tVar i) (tC (.int 0))) (gName j) Dn σ H := fun e1 e2 po => by
    obtain ⟨tl, rl, h1, h2⟩ := R.tnc i e1
    have ok := R.tow
    rw [h1] at ok
    obtain ⟨row, n, _, _, h3, h4⟩ := ok.get
    exact ⟨_, h2, tl, [.ref rl, .int n], 0, .ref rl, rfl, rfl, SqL.of h3, rfl, po W _ H (R.putRw h1 e2) Fz.refl Wk.refl⟩
  split at po
  · exact po.elim
  · rename_i e1 nx
    refine fin e1 ?_ po
    cases q : W.ow j with
    | none => rfl
    | some a =>
      obtain ⟨_, _, _, d, hd⟩ := R.dom j a q
      exact absurd hd (nx d)
  · exact po.elim
theorem upd_map_set (row : List Int) (m : Nat) (v : Int) : (row.map V.int).set m (.int v) = (row.set m v).map V.int := by
  rw [List.map_set]
theorem vs_tw1 (i : Nat) (nv : NV X i x) (he : VE X e f)
    (hs : swapsWithSole [.Subscript (.Name x p) (.Constant (.int 1) k0 p2) p3] e pos.line X.env = pure false := by rfl) (hw : swappedStores [.Subscript (.Name x p) (.Constant (.int 1) k0 p2) p3] e X.env = pure none := by rfl) (h1 : (assignEach [.Subscript (.Name x p) (.Constant (.int 1) k0 p2) p3] X.env).map (·.2) = [assign (.Subscript (.Name x p) (.Constant (.int 1) k0 p2) p3) X.env] := by rfl)
    (ha : ∀ v, assign (.Subscript (.Name x p) (.Constant (.int 1) k0 p2) p3) X.env v = (do
      let ov ← holding [v] (eval (.Name x p) X.env)
      let iv ← holding [v, ov] (eval (.Constant (.int 1) k0 p2) X.env)
      standAt p3
      holding [v, ov, iv] (setItem ov iv v)
      release [v, ov, iv] []) := by intro _; rfl) : VS X (.Assign [.Subscript (.Name x p) (.Constant (.int 1) k0 p2) p3] e pos) (sTw1 i f) := by
  obtain ⟨t, pt, sn⟩ := he.ex
  refine ⟨_, ps_asg pt (pg_sub (pe_var nv.hN nv.hv nv.hd nv.hcd) pe_int set_list ha) hs hw h1, fun G W σ H s Dn R po => ?_⟩
  unfold sTw1 at po
  match e0 : f s, po with
  | none, po => exact po.elim
  | some (d, s1), po =>
    dsimp only [Option.bind] at po
    split at po
    · rename_i n row m e1 e2
      refine sn G W σ H s _ s1 R e0 _ fun v H1 R1 z1 p1 => ?_
      obtain ⟨tl, rl, h1, h2⟩ := R1.tnc i e1
      have ok := R1.tow
      rw [h1, e2] at ok
      obtain ⟨o1, o2, o3⟩ := ok
      cases p1
      refine ⟨_, h2, tl, _, 1, 1, rfl, rfl, o2, rfl, ?_⟩
      obtain ⟨R2, z2⟩ := R1.town h1 (H' := upd H1 tl (.lst [.ref rl, .int n])) (tw' := some (row, n)) (fun a o e n1 n2 => by rw [upd_ne n1]; exact e) (by rw [h1]; exact ⟨o1, upd_same, by rw [upd_ne o1.symm]; exact o3⟩)
      exact po W σ _ R2 (z1.trans z2) Wk.refl
    · exact po.elim
theorem vs_rowSet (j : Nat) (nv : NV X j x) (hb : VE X b f) (he : VE X e g)
    (hs : swapsWithSole [.Subscript (.Name x p) b p3] e pos.line X.env = pure false := by rfl) (hw : swappedStores [.Subscript (.Name x p) b p3] e X.env = pure none := by rfl) (h1 : (assignEach [.Subscript (.Name x p) b p3] X.env).map (·.2) = [assign (.Subscript (.Name x p) b p3) X.env] := by rfl)
    (ha : ∀ v, assign (.Subscript (.Name x p) b p3) X.env v = (do
      let ov ← holding [v] (eval (.Name x p) X.env)
      let iv ← holding [v, ov] (eval b X.env)
      standAt p3
      holding [v, ov, iv] (setItem ov iv v)
      release [v, ov, iv] []) := by intro _; rfl) : VS X (.Assign [.Subscript (.Name x p) b p3] e pos) (sRowSet j f g) := by
  obtain ⟨t, pt, sn⟩ := he.ex
  obtain ⟨u, pu, su⟩ := hb.ex
  refine ⟨_, ps_asg pt (pg_sub (pe_var nv.hN nv.hv nv.hd nv.hcd) pu set_list ha) hs hw h1, fun G W σ H s Dn R po => ?_⟩
  unfold sRowSet at po
  match e0 : g s, po with
  | none, po => exact po.elim
  | some (z, s1), po =>
    dsimp only [Option.bind] at po
    split at po
    · rename_i e1
      match e2 : f s1, po with
      | none, po => exact po.elim
      | some (y, s2), po =>
        dsimp only at po
        split at po
        · rename_i v k row n e3 _
          cases e4 : ixN row.length k with
          | none => rw [e4] at po; exact po.elim
          | some m =>
            rw [e4] at po
            refine sn G W σ H s _ s1 R e0 _ fun v1 H1 R1 z1 p1 => ?_
            obtain ⟨tl, rl, h1, h2⟩ := R1.rwc j e1
            refine ⟨_, h2, su G W σ H1 s1 _ s2 R1 e2 _ fun v2 H2 R2 z2 p2 => ?_⟩
            have ok := R2.tow
            rw [h1, e3] at ok
            obtain ⟨o1, o2, o3⟩ := ok
            cases p1
            cases p2
            refine ⟨rl, _, k, m, rfl, rfl, o3, by rw [List.length_map]; exact e4, ?_⟩
            rw [upd_map_set]
            obtain ⟨R3, z3⟩ := R2.town h1 (H' := upd H2 rl (.lst ((row.set m v).map .int))) (tw' := some (row.set m v, n)) (fun a o e n1 n2 => by rw [upd_ne n2]; exact e) (by rw [h1]; exact ⟨o1, by rw [upd_ne o1]; exact o2, upd_same⟩)
            exact po W σ _ R3 ((z1.trans z2).trans z3) Wk.refl
        · exact po.elim
    · exact po.elim
end
end Fx
-- Fnx
namespace Fx
open PySem PySem.Spec L2
/-! ### keys of nested tuples, at the heap -/
mutual
theorem nk_data : ∀ (d : D) (k : NestedKey), nkD d = some k → k.data = d
  | .none, k, h => by simp only [nkD, Option.some.injEq] at h; subst h; rfl
  | .int i, k, h => by simp only [nkD, Option.some.injEq] at h; subst h; rfl
  | .str x, k, h => by simp only [nkD, Option.some.injEq] at h; subst h; rfl
  | .tuple [], k, h => by simp [nkD] at h
  | .tuple (d :: ds), k, h => by
    simp only [nkD, Option.map_eq_some_iff] at h
    obtain ⟨ks, h1, rfl⟩ := h
    simp only [NestedKey.data]
    rw [nks_data (d :: ds) ks h1]
  | .bool _, k, h => by simp [nkD] at h
  | .list _, k, h => by simp [nkD] at h
  | .dict _, k, h => by simp [nkD] at h
theorem nks_data : ∀ (ds : List D) (ks : List NestedKey), nksD ds = some ks → NestedKey.datas ks = ds
  | [], ks, h => by simp only [nksD, Option.some.injEq] at h; subst h; rfl
  | d :: r, ks, h => by
    unfold nksD at h
    split at h
    · rename_i k kr h1 h2
      cases h
      simp only [NestedKey.datas]
      rw [nk_data d k h1, nks_data r kr h2]
    · cases h
end
mutual
inductive NK (H : Hp) : NestedKey → V → Prop
  | non : NK H .none .non
  | int (i : Int) : NK H (.num i) (.int i)
  | str (x : Str) : NK H (.text x) (.str x)
  | tup {b : Addr} {vs : List V} {ks : List NestedKey} : H b = some (.tup vs) → NKs H ks vs → NK H (.tup ks) (.ref b)
inductive NKs (H : Hp) : List NestedKey → List V → Prop
  | nil : NKs H [] []
  | cons {k : NestedKey} {v : V} {ks : List NestedKey} {vs : List V} : NK H k v → NKs H ks vs → NKs H (k :: ks) (v :: vs)
end
section
variable {P : Program} {w : World} {H : Hp} {h : Heap}
mutual
theorem NK.is (ok : HOk P w H h) : ∀ {k : NestedKey} {v : V} {u : Value}, NK H k v → RelV v u → NestedIs h k u
  | _, _, u, .non, r => by obtain rfl : u = Value.none := r; exact .none
  | _, _, u, .int i, r => by obtain ⟨t, rfl⟩ : ∃ t, u = Value.int i t := r; exact .int i t
  | _, _, u, .str x, r => by obtain ⟨t, rfl⟩ : ∃ t, u = Value.str x t := r; exact .text x t
  | _, _, u, .tup (b := b) (vs := vs) e n, r => by
    obtain rfl : u = Value.ref b := r
    obtain ⟨_, its, rv, o, h1, h2, m, h3⟩ := (show ObjOk P w H h b (.tup vs) from ok b _ e)
    exact .tup h1 h2 h3 (by simpa using NKs.is ok n rv)
theorem NKs.is (ok : HOk P w H h) : ∀ {ks : List NestedKey} {vs : List V} {us : List Value}, NKs H ks vs → Vals vs us → NestedAll h ks us
  | _, _, _, .nil, r => by cases r; exact .nil
  | _, _, _, .cons n t, r => by
    cases r with
    | cons r1 r2 => exact .cons (NK.is ok n r1) (NKs.is ok t r2)
end
end
section
variable {E : Ev} {A : Addr → Prop} {H : Hp}
mutual
theorem Rep.nk : ∀ {v : V} {d : D} {k : NestedKey}, Rep E A H v d → nkD d = some k → NK H k v
  | _, _, _, .non, h => by simp only [nkD, Option.some.injEq] at h; subst h; exact .non
  | _, _, _, .int i, h => by simp only [nkD, Option.some.injEq] at h; subst h; exact .int i
  | _, _, _, .str x, h => by simp only [nkD, Option.some.injEq] at h; subst h; exact .str x
  | _, _, _, .bl b, h => by simp [nkD] at h
  | _, _, k, .tup (ds := ds) e r, h => by
    cases ds with
    | nil => simp [nkD] at h
    | cons d ds =>
      simp only [nkD, Option.map_eq_some_iff] at h
      obtain ⟨ks, h1, rfl⟩ := h
      rcases e with ⟨_, e⟩ | ⟨rfl, _⟩
      · exact .tup e (Reps.nks r h1)
      · cases r
  | _, _, _, .lst .., h => by simp [nkD] at h
  | _, _, _, .dt .., h => by simp [nkD] at h
  | _, _, _, .dk .., h => by simp [nkD] at h
  | _, _, _, .dx .., h => by simp [nkD] at h
theorem Reps.nks : ∀ {vs : List V} {ds : List D} {ks : List NestedKey}, Reps E A H vs ds → nksD ds = some ks → NKs H ks vs
  | _, _, _, .nil, h => by simp only [nksD, Option.some.injEq] at h; subst h; exact .nil
  | _, _, _, .cons r t, h => by
    unfold nksD at h
    split at h
    · rename_i k kr h1 h2
      cases h
      exact .cons (Rep.nk r h1) (Reps.nks t h2)
    · cases h
end
end
/-! the dict -/
abbrev EX := NestedKey × Addr × V
def valX (xs : List EX) (k : NestedKey) : Option V := (xs.find? fun x => decide (x.1 = k)).map (·.2.2)
def putX (xs : List EX) (k : NestedKey) (b : Addr) (v : V) : List EX := if (valX xs k).isSome then xs.map (fun x => if x.1 = k then (x.1, x.2.1, v) else x) else xs ++ [(k, b, v)]
def KXs (H : Hp) (xs : List EX) : Prop := ∀ x ∈ xs, NK H x.1 (.ref x.2.1) ∧ x.1.depth ≤ 8
def XGet (E : Ev) (H : Hp) (a : Addr) (y : V) (r : Option V) : Prop := ∃ (xs : List EX) (k : NestedKey) (b : Addr), (Rd H a (.ext (NX E a xs)) ∨ (xs = [] ∧ Rd H a (.dT []))) ∧ KXs H xs ∧ y = .ref b ∧ NK H k (.ref b) ∧ k.depth ≤ 8 ∧ r = valX xs k
def XPut (E : Ev) (H : Hp) (a : Addr) (y v : V) (H' : Hp) : Prop := ∃ (xs : List EX) (k : NestedKey) (b : Addr), (H a = some (.ext (NX E a xs)) ∨ (xs = [] ∧ H a = some (.dT []))) ∧ KXs H xs ∧ y = .ref b ∧ NK H k (.ref b) ∧ k.depth ≤ 8 ∧ xs.length < sizeLine ∧ H' = upd H a (.ext (NX E a (putX xs k b v)))
def AGet (E : Ev) (H : Hp) (a : Addr) (y : V) (r : Option V) : Prop := DGet H a y r ∨ XGet E H a y r
def APut (E : Ev) (H : Hp) (a : Addr) (y v : V) (H' : Hp) : Prop := DPut H a y v H' ∨ XPut E H a y v H'
abbrev PX : EX → NestedKey × Addr × Value → Prop := fun p q => p.1 = q.1 ∧ p.2.1 = q.2.1 ∧ RelV p.2.2 q.2.2
theorem px_val {xs : List EX} {vs : List (NestedKey × Addr × Value)} (r : Paired PX xs vs) (k : NestedKey) : RelO (valX xs k) ((atKey vs k).map (·.2)) := by
  induction r with
  | nil => exact trivial
  | @cons p q ps qs h t ih =>
    obtain ⟨h1, h2, h3⟩ := h
    unfold valX atKey
    rw [List.find?_cons, List.find?_cons, h1]
    by_cases e : q.1 = k
    · rw [decide_eq_true e]
      exact h3
    · rw [decide_eq_false e]
      exact ih
theorem px_put {xs : List EX} {vs : List (NestedKey × Addr × Value)} (r : Paired PX xs vs) (k : NestedKey) (b : Addr) {v : V} {u : Value} (rv : RelV v u) : Paired PX (putX xs k b v) (storedH vs k b u) := by
  unfold putX storedH
  have e : (valX xs k).isSome = (atKey vs k).isSome := by
    have := (px_val r k).isSome_eq
    rwa [Option.isSome_map] at this
  rw [e]
  by_cases q : (atKey vs k).isSome = true
  · rw [if_pos q, if_pos q]
    clear e q
    induction r with
    | nil => exact .nil
    | @cons p q ps qs h t ih =>
      refine .cons ?_ ih
      obtain ⟨h1, h2, h3⟩ := h
      unfold putAt
      by_cases e : q.1 = k
      · dsimp only
        rw [if_pos e, if_pos (h1.trans e)]
        exact ⟨h1, h2, rv⟩
      · dsimp only
        rw [if_neg e, if_neg (fun z => e (h1.symm.trans z))]
        exact ⟨h1, h2, h3⟩
  · rw [if_neg q, if_neg q]
    exact Paired.snoc r ⟨rfl, rfl, rv⟩
theorem putX_len (xs : List EX) (k : NestedKey) (b : Addr) (v : V) : (putX xs k b v).length ≤ xs.length + 1 := by
  unfold putX
  split
  · rw [List.length_map]; omega
  · rw [List.length_append, List.length_singleton]; omega
theorem putX_ne (xs : List EX) (k : NestedKey) (b : Addr) (v : V) : putX xs k b v ≠ [] := by
  unfold putX
  split
  · rename_i h
    cases xs with
    | nil => simp [valX] at h
    | cons p r => simp
  · simp
section
variable {X : Cx} {pins : List (Addr × Obj)} {σ : St} {H : Hp} {s : Shared} {a : Addr} {y v : V} {u r : Value} {o : Option V} {A : Around} {E : Value → Shared → Prop}
theorem nx_dict {P : Program} {w : World} {h : Heap} {xs : List EX} (ok : HOk P w H h) (n : NX ⟨P, w, X.K⟩ a xs h) (k : KXs H xs) : ∃ vs, Paired PX xs vs ∧ (a == sysModules) = false ∧ xs.length ≤ sizeLine ∧ h.DictOfH (nestedKind P w) a vs := by
  obtain ⟨vs, rv, hs, hl, o, es, ep, h1, h2, h3, h4, h5⟩ := n
  refine ⟨vs, rv, hs, hl, o, es, ep, h1, h2, h3, h4, ?_, h5⟩
  have all : ∀ {l : List EX} {m : List (NestedKey × Addr × Value)}, Paired PX l m → KXs H l → ∀ x ∈ m, (nestedKind P w).is h x.1 x.2.1 := by
    intro l m q
    induction q with
    | nil => intro _ x hx; cases hx
    | @cons p q ps qs hq t ih =>
      intro kx x hx
      rcases List.mem_cons.mp hx with e | hx
      · subst e
        obtain ⟨e1, e2, _⟩ := hq
        obtain ⟨n1, n2⟩ := kx p List.mem_cons_self
        rw [← e1, ← e2]
        exact ⟨NK.is ok n1 rfl, n2⟩
      · exact ih (fun z hz => kx z (List.mem_cons_of_mem _ hz)) x hx
  exact all rv k
theorem nk_is {P : Program} {w : World} {h : Heap} {k : NestedKey} {b : Addr} (ok : HOk P w H h) (n : NK H k (.ref b)) (d : k.depth ≤ 8) : (nestedKind P w).is h k b := ⟨NK.is ok n rfl, d⟩
theorem room9 (hu : A.units + 65 < cLine) : (nestedKind X.prog X.w).room A.in1 := by
  show A.in1.units + 8 < cLine
  rw [Around.in1_units]
  omega
theorem x_get (I : Inv X pins σ H s) (g : XGet (evX X) H a y o) : ∃ (xs : List EX) (k : NestedKey) (b : Addr) (vs : List (NestedKey × Addr × Value)), y = .ref b ∧ (nestedKind X.prog X.w).is s.heap k b ∧ Paired PX xs vs ∧ (a == sysModules) = false ∧ s.heap.DictOfH (nestedKind X.prog X.w) a vs ∧ o = valX xs k := by
  obtain ⟨xs, k, b, e, kx, ey, nk, dp, l⟩ := g
  rcases e with e | ⟨rfl, e⟩
  · obtain ⟨vs, rv, hs, _, dd⟩ := nx_dict (X := X) I.hok (show NX (evX X) a xs s.heap from (rd_of I.hok e).1) kx
    exact ⟨xs, k, b, vs, ey, nk_is I.hok nk dp, rv, hs, dd, l⟩
  · obtain ⟨_, hs, vs, rel, o, es, ep, h1, h2, h3, h4, _, h5⟩ := dt_rd I.hok e
    cases rel
    exact ⟨[], k, b, [], ey, nk_is I.hok nk dp, .nil, hs, ⟨o, es, ep, h1, h2, h3, h4, (fun _ z => nomatch z), List.nodup_nil⟩, l⟩
theorem a_getItem {Q : Value → Shared → Prop} (hu : A.units + 65 < cLine) (I : Inv X pins σ H s) (g : AGet (evX X) H a y (some v)) (ry : RelV y u) (h : ∀ w' s', Inv X pins σ H s' → RelV v w' → Q w' s') :
    wpAny (model X.prog X.w) A (getItem (.ref a) u) Q E s := by
  rcases g with g | g
  · exact d_getItem (by omega) I g ry h
  · obtain ⟨xs, k, b, vs, rfl, kb, rv, hs, dd, l⟩ := x_get I g
    cases (show u = Value.ref b from ry)
    obtain ⟨w', hw, rw'⟩ := RelO.some_of (v := v) (o := (atKey vs k).map (·.2)) (by rw [l]; exact px_val rv k)
    obtain ⟨p, hp, hp2⟩ := Option.map_eq_some_iff.mp hw
    refine wpAny_getItem_heap (room9 hu) kb dd hp ?_
    rw [hp2]
    exact h w' _ (I.tok _) rw'
theorem a_in {Q : Value → Shared → Prop} (hu : A.units + 65 < cLine) (I : Inv X pins σ H s) (g : AGet (evX X) H a y o) (ry : RelV y u) (h : ∀ s', Inv X pins σ H s' → Q (.bool o.isSome) s') :
    wpAny (model X.prog X.w) A (compareOp .In u (.ref a)) Q E s := by
  rcases g with g | g
  · exact d_in (by omega) I g ry h
  · obtain ⟨xs, k, b, vs, rfl, kb, rv, hs, dd, l⟩ := x_get I g
    cases (show u = Value.ref b from ry)
    refine wpAny_in_heap (room9 hu) kb hs dd ?_
    have q := (px_val rv k).isSome_eq
    rw [Option.isSome_map] at q
    rw [← q, ← l]
    exact h _ (I.tok _)
theorem a_notIn {Q : Value → Shared → Prop} (hu : A.units + 65 < cLine) (I : Inv X pins σ H s) (g : AGet (evX X) H a y o) (ry : RelV y u) (h : ∀ s', Inv X pins σ H s' → Q (.bool (!o.isSome)) s') :
    wpAny (model X.prog X.w) A (compareOp .NotIn u (.ref a)) Q E s := by
  rcases g with g | g
  · exact d_notIn (by omega) I g ry h
  · obtain ⟨xs, k, b, vs, rfl, kb, rv, hs, dd, l⟩ := x_get I g
    cases (show u = Value.ref b from ry)
    refine PyProof.Rows.wpAny_notIn_heap (room9 hu) kb hs dd ?_
    have q := (px_val rv k).isSome_eq
    rw [Option.isSome_map] at q
    rw [← q, ← l]
    exact h _ (I.tok _)
theorem a_setItem {H' : Hp} {Q : Unit → Shared → Prop} (hu : A.units + 65 < cLine) (I : Inv X pins σ H s) (g : APut (evX X) H a y v H') (ry : RelV y u) (rv : RelV v r) (h : ∀ s', Inv X pins σ H' s' → Q () s') :
    wpAny (model X.prog X.w) A (setItem (.ref a) u r) Q E s := by
  rcases g with g | ⟨xs, k, b, e, kx, ey, nk, dp, l, eH⟩
  · exact d_setItem (by omega) I g ry rv h
  · subst ey eH
    cases (show u = Value.ref b from ry)
    have base : ∃ vs, Paired PX xs vs ∧ (a == sysModules) = false ∧ s.heap.DictOfH (nestedKind X.prog X.w) a vs := by
      rcases e with e | ⟨rfl, e⟩
      · obtain ⟨vs, rv, hs, _, dd⟩ := nx_dict (X := X) I.hok (show NX (evX X) a xs s.heap from (rd_of I.hok (.inl e)).1) kx
        exact ⟨vs, rv, hs, dd⟩
      · obtain ⟨_, hs, vs, rel, o, es, ep, h1, h2, h3, h4, _, h5⟩ := dt_of I.hok e
        cases rel
        exact ⟨[], .nil, hs, o, es, ep, h1, h2, h3, h4, (fun _ z => nomatch z), List.nodup_nil⟩
    obtain ⟨vs, rp, hs, dd⟩ := base
    have hz : vs.length ≤ sizeLine := by rw [← Paired.length rp]; omega
    refine wpAny_setItem_heap (hsz := hz) (room9 hu) (nk_is I.hok nk dp) dd fun h' dd' hb => h _ ?_
    obtain ⟨q, es, ep, hq, h2, h3, h4, _, h5⟩ := dd'
    have mu : Mut (H a) := by
      rcases e with e | ⟨_, e⟩ <;> (rw [e]; exact True.intro)
    refine d_write I mu hb ⟨q, hq⟩ (NX.ok (E := evX X) ⟨_, px_put rp k b rv, hs, ?_, q, es, ep, hq, h2, h3, h4, h5⟩)
    have := putX_len xs k b v
    omega
theorem a_typeIs (I : Inv X pins σ H s) (g : AGet (evX X) H a y o) : s.TypeIs (.ref a) "dict" := by
  rcases g with g | g
  · exact dict_typeIs I g
  · obtain ⟨xs, k, b, vs, _, _, _, _, dd, _⟩ := x_get I g
    exact dd.typeIs
end
def tAGet (E : Ev) (td ty : TE) : TE := fun σ H Q => td σ H fun x H1 => ty σ H1 fun y H2 => ∃ a v, x = .ref a ∧ AGet E H2 a y (some v) ∧ Q v H2
def sAPut (E : Ev) (td ty tv : TE) : TS := fun D σ H => tv σ H fun v H1 => td σ H1 fun x H2 => ty σ H2 fun y H3 => ∃ a H4, x = .ref a ∧ APut E H3 a y v H4 ∧ D.nx σ H4
section
variable {X : Cx} {o i e value : Expr} {pos pos' tpos : Pos} {td ty tv : TE}
theorem pe_aget (hu : X.A.units + 65 < cLine) (ho : PE X o td) (hi : PE X i ty) (hs : NoSl i) : PE X (.Subscript o i pos) (tAGet (evX X) td ty) := by
  refine ⟨fun pins s σ H Q I h => ?_⟩
  refine subD_of PySem.F.slot_dict_getitem.lookup hs (thn (ho.run pins s σ H _ I h) fun u s1 ⟨x, H1, I1, rx, q1⟩ => thn (hi.run pins s1 σ H1 _ I1 q1) fun iv s2 ⟨y, H2, I2, ry, a, v, ex, g, q2⟩ => ?_)
  subst ex
  obtain rfl : u = Value.ref a := rx
  exact ⟨a_typeIs I2 g, a_getItem hu I2 g ry fun w' s3 I3 rw' => ⟨v, H2, I3, rw', q2⟩⟩
theorem ps_aput (hu : X.A.units + 65 < cLine) (ho : PE X o td) (hi : PE X i ty) (hv : PE X value tv) (hs : swapsWith value (some (.Subscript o i pos')) pos.line X.env = pure false) :
    PS X (.Assign [.Subscript o i pos'] value pos) (sAPut (evX X) td ty tv) := by
  refine ⟨fun pins s σ H D I h => ?_⟩
  refine wpAny_Assign_Subscript (thn (hv.run pins s σ H _ I h) fun r s1 ⟨v, H1, I1, rv, q1⟩ => thn (ho.run pins s1 σ H1 _ I1 q1) fun u s2 ⟨x, H2, I2, rx, q2⟩ => thn (hi.run pins s2 σ H2 _ I2 q2) fun iv s3 ⟨y, H3, I3, ry, a, H4, ex, g, q3⟩ => ?_) hs
  subst ex
  obtain rfl : u = Value.ref a := rx
  exact a_setItem hu I3 g ry rv fun s4 I4 => ⟨σ, H4, I4, q3⟩
end
end Fx
-- Fx17
namespace Fx
open PySem PySem.Spec L2
/-! ### dicts whose keys are tuples of ints and texts; ints and texts -/
def keyA : D → Option Key
  | .int i => some (.inl i)
  | .str x => some (.inr x)
  | _ => none
def keysA : List D → Option (List Key)
  | [] => some []
  | d :: r => (keyA d).bind fun k => (keysA r).map fun ks => k :: ks
/-- a key -/
inductive KY where
  | t (ks : List Key)
  | k (q : Key)
  | n (q : NestedKey)
deriving DecidableEq
def keyY : D → Option KY
  | .tuple [] => none
  | .tuple (d :: ds) => match (d :: ds).any isTup with
    | false => (keysA (d :: ds)).map .t
    | true => match nkD (.tuple (d :: ds)) with
      | some k => if k.depth ≤ 8 then some (.n k) else none
      | none => none
  | .int i => some (.k (.inl i))
  | .str x => some (.k (.inr x))
  | _ => none
def KY.d : KY → D
  | .t ks => .tuple (ks.map keyD)
  | .k q => keyD q
  | .n q => q.data
def isT : D → Bool
  | .tuple _ => true
  | _ => false
/-- the key is of the dict's kind -/
def okY : List (D × D) → KY → Bool
  | [], .t _ => true
  | [], .k _ => false
  | [], .n _ => true
  | kv :: _, .t _ => isT kv.1 && !isN kv.1
  | kv :: _, .k _ => !isT kv.1
  | kv :: _, .n _ => isN kv.1
theorem isT_k (k : Key) : isT (keyD k) = false := by cases k <;> rfl
theorem keyA_D (k : Key) : keyA (keyD k) = some k := by cases k <;> rfl
theorem keysA_D : ∀ ks : List Key, keysA (ks.map keyD) = some ks
  | [] => rfl
  | k :: ks => by show ((keyA (keyD k)).bind fun k => (keysA (ks.map keyD)).map fun ks => k :: ks) = _; rw [keyA_D, keysA_D ks]; rfl
theorem isTup_k (k : Key) : isTup (keyD k) = false := by cases k <;> rfl
theorem anyT_k : ∀ ks : List Key, (ks.map keyD).any isTup = false
  | [] => rfl
  | k :: ks => by rw [List.map_cons, List.any_cons, isTup_k, anyT_k ks]; rfl
theorem isN_t (ks : List Key) : isN (.tuple (ks.map keyD)) = false := anyT_k ks
theorem isN_k (k : Key) : isN (keyD k) = false := by cases k <;> rfl
theorem keyY_flat {d : D} {ds : List D} (h : (d :: ds).any isTup = false) : keyY (.tuple (d :: ds)) = (keysA (d :: ds)).map .t := by
  show (match (d :: ds).any isTup with
    | false => (keysA (d :: ds)).map KY.t
    | true => match nkD (.tuple (d :: ds)) with
      | some k => if k.depth ≤ 8 then some (.n k) else none
      | none => none) = _
  rw [h]
theorem keyY_nest {d : D} {ds : List D} (h : (d :: ds).any isTup = true) : keyY (.tuple (d :: ds)) = match nkD (.tuple (d :: ds)) with
      | some k => if k.depth ≤ 8 then some (.n k) else none
      | none => none := by
  show (match (d :: ds).any isTup with
    | false => (keysA (d :: ds)).map KY.t
    | true => match nkD (.tuple (d :: ds)) with
      | some k => if k.depth ≤ 8 then some (.n k) else none
      | none => none) = _
  rw [h]
theorem keyY_t {ks : List Key} (h : ks ≠ []) : keyY (.tuple (ks.map keyD)) = some (.t ks) := by
  cases ks with
  | nil => exact absurd rfl h
  | cons k r =>
    rw [List.map_cons, keyY_flat (by rw [← List.map_cons]; exact anyT_k _), ← List.map_cons, keysA_D]
    rfl
theorem keyY_n {q : D} {k : NestedKey} (h : nkD q = some k) (hn : isN q = true) (hd : k.depth ≤ 8) : keyY q = some (.n k) := by
  cases q with
  | tuple ds =>
    cases ds with
    | nil => simp [nkD] at h
    | cons d ds =>
      rw [keyY_nest hn, h]
      simp only [if_pos hd]
  | _ => simp [isN] at hn
theorem keyY_n_of {q : D} {k : NestedKey} (h : keyY q = some (.n k)) : nkD q = some k ∧ isN q = true ∧ k.depth ≤ 8 := by
  cases q with
  | tuple ds =>
    cases ds with
    | nil => simp [keyY] at h
    | cons d ds =>
      by_cases hn : (d :: ds).any isTup = true
      · rw [keyY_nest hn] at h
        split at h
        · rename_i k' e
          split at h
          · cases h
            exact ⟨e, hn, by assumption⟩
          · cases h
        · cases h
      · rw [keyY_flat (by simpa using hn)] at h
        simp only [Option.map_eq_some_iff] at h
        obtain ⟨_, _, z⟩ := h
        cases z
  | int i => simp [keyY] at h
  | str x => simp [keyY] at h
  | _ => simp [keyY] at h
theorem keyY_k (k : Key) : keyY (keyD k) = some (.k k) := by cases k <;> rfl
def lookY (kvs : List (D × D)) (k : KY) : Option D := match kvs with
  | [] => none
  | kv :: r => if keyY kv.1 = some k then some kv.2 else lookY r k
def setY (kvs : List (D × D)) (k : KY) (d : D) : List (D × D) := kvs.map fun kv => if keyY kv.1 = some k then (kv.1, d) else kv
def putY (kvs : List (D × D)) (k : KY) (d : D) : List (D × D) := match lookY kvs k with
  | some _ => setY kvs k d
  | none => kvs ++ [(k.d, d)]
def dropY (kvs : List (D × D)) (k : KY) : List (D × D) := kvs.filter fun kv => decide (keyY kv.1 ≠ some k)
section
variable {E : Ev} {A : Addr → Prop} {H : Hp}
def RelR (E : Ev) (A : Addr → Prop) (H : Hp) (a : Option V) (b : Option D) : Prop := (a = none ∧ b = none) ∨ ∃ v d, a = some v ∧ b = some d ∧ Rep E A H v d
theorem EntsT.look {xs : List (List Key × V)} {kvs : List (D × D)} (r : EntsT E A H xs kvs) (k : List Key) : RelR E A H (valV xs k) (lookY kvs (.t k)) := by
  induction xs generalizing kvs with
  | nil => cases r; exact .inl ⟨rfl, rfl⟩
  | cons p xs ih =>
    cases r with
    | cons n r t =>
      rename_i k' v d kvs
      unfold lookY
      rw [keyY_t n]
      by_cases e : k' = k
      · rw [valV_pos (p := (k', v)) e, if_pos (by rw [e])]; exact .inr ⟨_, _, rfl, rfl, r⟩
      · rw [valV_neg (p := (k', v)) e, if_neg (fun z => e (by injection z with z; injection z))]; exact ih t
theorem EntsK.look {xs : List (Key × V)} {kvs : List (D × D)} (r : EntsK E A H xs kvs) (k : Key) : RelR E A H (valV xs k) (lookY kvs (.k k)) := by
  induction xs generalizing kvs with
  | nil => cases r; exact .inl ⟨rfl, rfl⟩
  | cons p xs ih =>
    cases r with
    | cons r t =>
      rename_i k' v d kvs
      unfold lookY
      rw [keyY_k]
      by_cases e : k' = k
      · rw [valV_pos (p := (k', v)) e, if_pos (by rw [e])]; exact .inr ⟨_, _, rfl, rfl, r⟩
      · rw [valV_neg (p := (k', v)) e, if_neg (fun z => e (by injection z with z; injection z))]; exact ih t
theorem EntsX.look {xs : List EX} {kvs : List (D × D)} (r : EntsX E A H xs kvs) (k : NestedKey) : RelR E A H (valX xs k) (lookY kvs (.n k)) := by
  induction xs generalizing kvs with
  | nil => cases r; exact .inl ⟨rfl, rfl⟩
  | cons p xs ih =>
    cases r with
    | cons n i l q r t =>
      rename_i k' b v q' d kvs
      unfold lookY valX
      rw [List.find?_cons]
      dsimp only
      rw [keyY_n n i l]
      by_cases e : k' = k
      · rw [decide_eq_true e, if_pos (by rw [e])]; exact .inr ⟨_, _, rfl, rfl, r⟩
      · rw [decide_eq_false e, if_neg (fun z => e (by injection z with z; injection z))]; exact ih t
theorem EntsX.kx {xs : List EX} {kvs : List (D × D)} (r : EntsX E A H xs kvs) : KXs H xs := by
  induction xs generalizing kvs with
  | nil => exact fun x hx => nomatch hx
  | cons p xs ih =>
    cases r with
    | cons n i l q r t =>
      intro x hx
      rcases List.mem_cons.mp hx with rfl | hx
      · exact ⟨q.nk n, l⟩
      · exact ih t x hx
theorem EntsX.set {xs : List EX} {kvs : List (D × D)} {k : NestedKey} {v : V} {d : D} (r : EntsX E A H xs kvs) (rv : Rep E A H v d) : EntsX E A H (xs.map fun x => if x.1 = k then (x.1, x.2.1, v) else x) (setY kvs (.n k) d) := by
  induction xs generalizing kvs with
  | nil => cases r; exact .nil
  | cons p xs ih =>
    cases r with
    | cons n i l q r t =>
      rename_i k' b v' q' d' kvs
      unfold setY
      rw [List.map_cons, List.map_cons]
      dsimp only
      rw [keyY_n n i l]
      by_cases e : k' = k
      · rw [if_pos e, if_pos (by rw [e])]; exact .cons n i l q rv (ih t)
      · rw [if_neg e, if_neg (fun z => e (by injection z with z; injection z))]; exact .cons n i l q r (ih t)
theorem EntsX.snoc {k : NestedKey} {b : Addr} {v : V} {q d : D} (n : nkD q = some k) (i : isN q = true) (l : k.depth ≤ 8) (rq : Rep E A H (.ref b) q) (rv : Rep E A H v d) : ∀ {xs : List EX} {kvs : List (D × D)}, EntsX E A H xs kvs → EntsX E A H (xs ++ [(k, b, v)]) (kvs ++ [((KY.n k).d, d)])
  | _, _, .nil => by
    show EntsX E A H [(k, b, v)] [(k.data, d)]
    rw [nk_data q k n]
    exact .cons n i l rq rv .nil
  | _, _, .cons n' i' l' q' r t => .cons n' i' l' q' r (t.snoc n i l rq rv)
theorem EntsX.put {xs : List EX} {kvs : List (D × D)} {k : NestedKey} {b : Addr} {v : V} {q d : D} (r : EntsX E A H xs kvs) (n : nkD q = some k) (i : isN q = true) (l : k.depth ≤ 8) (rq : Rep E A H (.ref b) q) (rv : Rep E A H v d) : EntsX E A H (putX xs k b v) (putY kvs (.n k) d) := by
  unfold putX putY
  rcases r.look k with ⟨h1, h2⟩ | ⟨v', d', h1, h2, _⟩
  · rw [h1, h2]; exact r.snoc n i l rq rv
  · rw [h1, h2]; exact r.set rv
theorem EntsX.length : ∀ {xs : List EX} {kvs : List (D × D)}, EntsX E A H xs kvs → xs.length = kvs.length
  | _, _, .nil => rfl
  | _, _, .cons _ _ _ _ _ t => by simp [t.length]
theorem EntsX.ok {xs : List EX} {kvs : List (D × D)} (r : EntsX E A H xs kvs) (n : xs ≠ []) : (∀ ks, okY kvs (.t ks) = false) ∧ ∀ q, okY kvs (.k q) = false := by
  cases r with
  | nil => exact absurd rfl n
  | @cons k b v q d xs kvs n i l rq r t =>
    refine ⟨fun ks => ?_, fun q' => ?_⟩
    · show (isT q && !isN q) = false
      rw [i]
      exact Bool.and_false _
    · show (!isT q) = false
      cases q <;> first | rfl | simp [isN] at i
theorem EntsT.set {xs : List (List Key × V)} {kvs : List (D × D)} {k : List Key} {v : V} {d : D} (r : EntsT E A H xs kvs) (rv : Rep E A H v d) : EntsT E A H (xs.map fun kv => if kv.1 = k then (kv.1, v) else kv) (setY kvs (.t k) d) := by
  induction xs generalizing kvs with
  | nil => cases r; exact .nil
  | cons p xs ih =>
    cases r with
    | cons n r t =>
      rename_i k' v' d' kvs
      unfold setY
      rw [List.map_cons, List.map_cons]
      dsimp only
      rw [keyY_t n]
      by_cases e : k' = k
      · rw [if_pos e, if_pos (by rw [e])]; exact .cons n rv (ih t)
      · rw [if_neg e, if_neg (fun z => e (by injection z with z; injection z))]; exact .cons n r (ih t)
theorem EntsK.set {xs : List (Key × V)} {kvs : List (D × D)} {k : Key} {v : V} {d : D} (r : EntsK E A H xs kvs) (rv : Rep E A H v d) : EntsK E A H (xs.map fun kv => if kv.1 = k then (kv.1, v) else kv) (setY kvs (.k k) d) := by
  induction xs generalizing kvs with
  | nil => cases r; exact .nil
  | cons p xs ih =>
    cases r with
    | cons r t =>
      rename_i k' v' d' kvs
      unfold setY
      rw [List.map_cons, List.map_cons]
      dsimp only
      rw [keyY_k]
      by_cases e : k' = k
      · rw [if_pos e, if_pos (by rw [e])]; exact .cons rv (ih t)
      · rw [if_neg e, if_neg (fun z => e (by injection z with z; injection z))]; exact .cons r (ih t)
theorem EntsT.snoc {k : List Key} {v : V} {d : D} (hk : k ≠ []) (rv : Rep E A H v d) : ∀ {xs : List (List Key × V)} {kvs : List (D × D)}, EntsT E A H xs kvs → EntsT E A H (xs ++ [(k, v)]) (kvs ++ [((KY.t k).d, d)])
  | _, _, .nil => EntsT.cons (k := k) hk rv .nil
  | _, _, .cons n r t => .cons n r (t.snoc hk rv)
theorem EntsK.snoc {k : Key} {v : V} {d : D} (rv : Rep E A H v d) : ∀ {xs : List (Key × V)} {kvs : List (D × D)}, EntsK E A H xs kvs → EntsK E A H (xs ++ [(k, v)]) (kvs ++ [((KY.k k).d, d)])
  | _, _, .nil => EntsK.cons (k := k) rv .nil
  | _, _, .cons r t => .cons r (t.snoc rv)
theorem EntsT.put {xs : List (List Key × V)} {kvs : List (D × D)} {k : List Key} {v : V} {d : D} (r : EntsT E A H xs kvs) (hk : k ≠ []) (rv : Rep E A H v d) : EntsT E A H (putK xs k v) (putY kvs (.t k) d) := by
  unfold putK putY
  rw [valV_any]
  rcases r.look k with ⟨h1, h2⟩ | ⟨v', d', h1, h2, _⟩
  · rw [h1, h2]; exact r.snoc hk rv
  · rw [h1, h2]; exact r.set rv
theorem EntsK.put {xs : List (Key × V)} {kvs : List (D × D)} {k : Key} {v : V} {d : D} (r : EntsK E A H xs kvs) (rv : Rep E A H v d) : EntsK E A H (putK xs k v) (putY kvs (.k k) d) := by
  unfold putK putY
  rw [valV_any]
  rcases r.look k with ⟨h1, h2⟩ | ⟨v', d', h1, h2, _⟩
  · rw [h1, h2]; exact r.snoc rv
  · rw [h1, h2]; exact r.set rv
theorem putK_ne {κ : Type} [DecidableEq κ] (kvs : List (κ × V)) (k : κ) (v : V) : putK kvs k v ≠ [] := by
  unfold putK
  split
  · rename_i h
    cases kvs with
    | nil => simp at h
    | cons p r => simp
  · simp
theorem EntsT.length : ∀ {xs : List (List Key × V)} {kvs : List (D × D)}, EntsT E A H xs kvs → xs.length = kvs.length
  | _, _, .nil => rfl
  | _, _, .cons _ _ t => by simp [t.length]
theorem EntsK.length : ∀ {xs : List (Key × V)} {kvs : List (D × D)}, EntsK E A H xs kvs → xs.length = kvs.length
  | _, _, .nil => rfl
  | _, _, .cons _ t => by simp [t.length]
theorem EntsT.get : ∀ {xs : List (List Key × V)} {kvs : List (D × D)} {i : Nat} {kv : D × D}, EntsT E A H xs kvs → kvs[i]? = some kv → ∃ k v, xs[i]? = some (k, v) ∧ k ≠ [] ∧ kv.1 = .tuple (k.map keyD) ∧ Rep E A H v kv.2
  | _, _, _, _, .nil, e => by simp at e
  | _, _, 0, _, .cons n r _, e => by simp at e; subst e; exact ⟨_, _, rfl, n, rfl, r⟩
  | _, _, i + 1, kv, .cons _ _ t, e => by
    obtain ⟨k, v, h1, h2⟩ := EntsT.get (i := i) (kv := kv) t (by simpa using e)
    exact ⟨k, v, by simpa using h1, h2⟩
theorem Reps.keys : ∀ {vs : List V} {ds : List D} {ks : List Key}, Reps E A H vs ds → keysA ds = some ks → vs = ks.map kV
  | _, _, ks, .nil, e => by cases e; rfl
  | _, _, ks, .cons r t, e => by
    unfold keysA at e
    simp only [Option.bind_eq_some_iff, Option.map_eq_some_iff] at e
    obtain ⟨k, h1, ks', h2, h3⟩ := e
    subst h3
    rw [List.map_cons, Reps.keys t h2]
    cases r <;> simp only [keyA] at h1
    all_goals first | (cases h1; done) | skip
    · cases h1; rfl
    · cases h1; rfl
theorem Rep.ofKeys : ∀ (ks : List Key), Reps E A H (ks.map kV) (ks.map keyD)
  | [] => .nil
  | .inl i :: ks => .cons (.int i) (Rep.ofKeys ks)
  | .inr x :: ks => .cons (.str x) (Rep.ofKeys ks)
/-- a datum that is a key, as DGet wants it -/
theorem Rep.keyT {v : V} {d : D} {ks : List Key} (r : Rep E A H v d) (h : keyY d = some (.t ks)) : ∃ b, v = .ref b ∧ H b = some (.tup (ks.map kV)) ∧ ks ≠ [] := by
  cases r <;> (try (simp [keyY] at h; done))
  rename_i a xs ds e r
  cases ds with
  | nil => simp [keyY] at h
  | cons d0 dr =>
    by_cases hn : (d0 :: dr).any isTup = true
    · rw [keyY_nest hn] at h
      split at h
      · split at h <;> cases h
      · cases h
    · rw [keyY_flat (by simpa using hn)] at h
      simp only [Option.map_eq_some_iff] at h
      obtain ⟨ks', h1, h2⟩ := h
      cases h2
      rcases e with ⟨_, e⟩ | ⟨e, _⟩
      · refine ⟨a, rfl, by rw [← r.keys h1]; exact e, fun z => ?_⟩
        rw [z] at h1
        unfold keysA at h1
        simp only [Option.bind_eq_some_iff, Option.map_eq_some_iff] at h1
        obtain ⟨k, _, ks, _, z⟩ := h1
        cases z
      · subst e; cases r
theorem Rep.keyN {v : V} {d : D} {k : NestedKey} (r : Rep E A H v d) (h : keyY d = some (.n k)) : ∃ b, v = .ref b ∧ NK H k (.ref b) ∧ nkD d = some k ∧ isN d = true ∧ k.depth ≤ 8 := by
  obtain ⟨h1, h2, h3⟩ := keyY_n_of h
  have nk := r.nk h1
  cases r with
  | tup e rs => exact ⟨_, rfl, nk, h1, h2, h3⟩
  | _ => simp [isN] at h2
theorem Rep.keyK {v : V} {d : D} {k : Key} (r : Rep E A H v d) (h : keyY d = some (.k k)) : v = kV k := by
  cases r with
  | int i => simp only [keyY] at h; cases h; rfl
  | str x => simp only [keyY] at h; cases h; rfl
  | tup e rs =>
    rename_i a xs ds
    cases ds with
    | nil => simp [keyY] at h
    | cons d0 dr =>
      by_cases hn : (d0 :: dr).any isTup = true
      · rw [keyY_nest hn] at h
        split at h
        · split at h <;> cases h
        · cases h
      · rw [keyY_flat (by simpa using hn)] at h
        simp only [Option.map_eq_some_iff] at h
        obtain ⟨_, _, z⟩ := h
        cases z
  | _ => simp [keyY] at h
theorem EntsT.ok {xs : List (List Key × V)} {kvs : List (D × D)} {q : Key} (r : EntsT E A H xs kvs) : okY kvs (.k q) = false := by
  cases r with
  | nil => rfl
  | cons _ _ _ => rfl
theorem EntsT.okn {xs : List (List Key × V)} {kvs : List (D × D)} {q : NestedKey} (r : EntsT E A H xs kvs) (n : xs ≠ []) : okY kvs (.n q) = false := by
  cases r with
  | nil => exact absurd rfl n
  | cons _ _ _ => exact isN_t _
theorem EntsK.okn {xs : List (Key × V)} {kvs : List (D × D)} {q : NestedKey} (r : EntsK E A H xs kvs) (n : xs ≠ []) : okY kvs (.n q) = false := by
  cases r with
  | nil => exact absurd rfl n
  | cons _ _ => exact isN_k _
theorem EntsK.ok {xs : List (Key × V)} {kvs : List (D × D)} {ks : List Key} (r : EntsK E A H xs kvs) (n : xs ≠ []) : okY kvs (.t ks) = false := by
  cases r with
  | nil => exact absurd rfl n
  | cons _ _ =>
    rename_i k v d xs kvs _ _
    show (isT (keyD k) && !isN (keyD k)) = false
    rw [isT_k]
    rfl
/-- what a dict as a datum holds -/
theorem Rep.dget {v u : V} {d : D} {kvs : List (D × D)} {k : KY} (rd : Rep E A H u (.dict kvs)) (r : Rep E A H v d) (h : keyY d = some k) (ok : okY kvs k = true) : ∃ a o, u = .ref a ∧ AGet E H a v o ∧ RelR E A H o (lookY kvs k) ∧ True := by
  cases rd with
  | dt n e en =>
    rename_i a o xs
    cases k with
    | t ks =>
      obtain ⟨b, rfl, hb, _⟩ := r.keyT h
      exact ⟨a, _, rfl, .inl (.inr ⟨xs, ks, b, .inr ⟨o, e⟩, rfl, hb, rfl⟩), en.look ks, trivial⟩
    | k q => rw [en.ok] at ok; cases ok
    | n q =>
      by_cases z : xs = []
      · subst z
        cases en
        obtain ⟨b, rfl, nk, _, _, dp⟩ := r.keyN h
        exact ⟨a, none, rfl, .inr ⟨[], q, b, .inr ⟨rfl, .inr ⟨o, e⟩⟩, (fun _ z => nomatch z), rfl, nk, dp, rfl⟩, .inl ⟨rfl, rfl⟩, trivial⟩
      · rw [en.okn z] at ok; cases ok
  | dk n e en z =>
    rename_i a o xs
    cases k with
    | k q => rw [r.keyK h]; exact ⟨a, _, rfl, .inl (.inl ⟨xs, q, .inr ⟨o, e⟩, rfl, rfl⟩), en.look q, trivial⟩
    | t ks => rw [en.ok z] at ok; cases ok
    | n q => rw [en.okn z] at ok; cases ok
  | dx n e en z =>
    rename_i a o xs
    cases k with
    | k q => rw [(en.ok z).2] at ok; cases ok
    | t ks => rw [(en.ok z).1] at ok; cases ok
    | n q =>
      obtain ⟨b, rfl, nk, _, _, dp⟩ := r.keyN h
      exact ⟨a, _, rfl, .inr ⟨xs, q, b, .inl (.inr ⟨o, e⟩), en.kx, rfl, nk, dp, rfl⟩, en.look q, trivial⟩
/-- .. a dict of one's own -/
theorem Top.dget {v : V} {d : D} {kvs : List (D × D)} {k : KY} {a : Addr} (rd : Top E A H a (.dict kvs)) (r : Rep E A H v d) (h : keyY d = some k) (ok : okY kvs k = true) : ∃ o, AGet E H a v o ∧ RelR E A H o (lookY kvs k) ∧ True := by
  rcases rd with ⟨xs, e, en⟩ | ⟨xs, e, en, z⟩ | ⟨xs, e, en, z⟩
  · cases k with
    | t ks =>
      obtain ⟨b, rfl, hb, _⟩ := r.keyT h
      exact ⟨_, .inl (.inr ⟨xs, ks, b, .inl e, rfl, hb, rfl⟩), en.look ks, trivial⟩
    | k q => rw [en.ok] at ok; cases ok
    | n q =>
      by_cases z : xs = []
      · subst z
        cases en
        obtain ⟨b, rfl, nk, _, _, dp⟩ := r.keyN h
        exact ⟨none, .inr ⟨[], q, b, .inr ⟨rfl, .inl e⟩, (fun _ z => nomatch z), rfl, nk, dp, rfl⟩, .inl ⟨rfl, rfl⟩, trivial⟩
      · rw [en.okn z] at ok; cases ok
  · cases k with
    | k q => rw [r.keyK h]; exact ⟨_, .inl (.inl ⟨xs, q, .inl e, rfl, rfl⟩), en.look q, trivial⟩
    | t ks => rw [en.ok z] at ok; cases ok
    | n q => rw [en.okn z] at ok; cases ok
  · cases k with
    | k q => rw [(en.ok z).2] at ok; cases ok
    | t ks => rw [(en.ok z).1] at ok; cases ok
    | n q =>
      obtain ⟨b, rfl, nk, _, _, dp⟩ := r.keyN h
      exact ⟨_, .inr ⟨xs, q, b, .inl (.inl e), en.kx, rfl, nk, dp, rfl⟩, en.look q, trivial⟩
/-- the dict is none of nested keys -/
def noN : List (D × D) → Bool
  | [] => true
  | kv :: _ => !isN kv.1
/-- .. and so are its keys -/
theorem Top.isD {a : Addr} {kvs : List (D × D)} (t : Top E A H a (.dict kvs)) (n : noN kvs = true) : IsD H a := by
  rcases t with ⟨xs, e, _⟩ | ⟨xs, e, _⟩ | ⟨xs, e, en, z⟩
  · exact .inr ⟨xs, .inl e⟩
  · exact .inl ⟨xs, .inl e⟩
  · cases en with
    | nil => exact absurd rfl z
    | cons _ i _ _ _ _ =>
      have n : (!isN _) = true := n
      rw [i] at n
      cases n
theorem Top.dgetF {v : V} {d : D} {kvs : List (D × D)} {k : KY} {a : Addr} (rd : Top E A H a (.dict kvs)) (nn : ∀ q, k ≠ .n q) (r : Rep E A H v d) (h : keyY d = some k) (ok : okY kvs k = true) : ∃ o, DGet H a v o ∧ RelR E A H o (lookY kvs k) := by
  rcases rd with ⟨xs, e, en⟩ | ⟨xs, e, en, z⟩ | ⟨xs, e, en, z⟩
  · cases k with
    | t ks =>
      obtain ⟨b, rfl, hb, _⟩ := r.keyT h
      exact ⟨_, .inr ⟨xs, ks, b, .inl e, rfl, hb, rfl⟩, en.look ks⟩
    | k q => rw [en.ok] at ok; cases ok
    | n q => exact absurd rfl (nn q)
  · cases k with
    | k q => rw [r.keyK h]; exact ⟨_, .inl ⟨xs, q, .inl e, rfl, rfl⟩, en.look q⟩
    | t ks => rw [en.ok z] at ok; cases ok
    | n q => exact absurd rfl (nn q)
  · cases k with
    | k q => rw [(en.ok z).2] at ok; cases ok
    | t ks => rw [(en.ok z).1] at ok; cases ok
    | n q => exact absurd rfl (nn q)
theorem Top.dput {v w : V} {d e : D} {kvs : List (D × D)} {k : KY} {a : Addr} (rd : Top E A H a (.dict kvs)) (ha : A a) (r : Rep E A H v d) (rw' : Rep E A H w e) (h : keyY d = some k) (ok : okY kvs k = true) (hl : kvs.length < 100000) : ∃ o, APut E H a v w (upd H a o) ∧ Top E A (upd H a o) a (.dict (putY kvs k e)) := by
  have f : ∀ o, Fz A A H (upd H a o) := fun o b u n e => ⟨n, by rw [upd_ne (fun z => n (by rw [z]; exact ha))]; exact e⟩
  rcases rd with ⟨xs, e, en⟩ | ⟨xs, e, en, z⟩ | ⟨xs, e, en, z⟩
  · cases k with
    | t ks =>
      obtain ⟨b, rfl, hb, nk⟩ := r.keyT h
      exact ⟨_, .inl (.inr ⟨xs, ks, b, e, rfl, hb, line_lt (by rw [en.length]; exact hl), rfl⟩), .inl ⟨_, upd_same, (en.put nk rw').fz (f _)⟩⟩
    | k q => rw [en.ok] at ok; cases ok
    | n q =>
      by_cases z : xs = []
      · subst z
        cases en
        obtain ⟨b, rfl, nk, h1, h2, dp⟩ := r.keyN h
        exact ⟨_, .inr ⟨[], q, b, .inr ⟨rfl, e⟩, (fun _ z => nomatch z), rfl, nk, dp, line_lt (Nat.zero_lt_succ _), rfl⟩, .inr (.inr ⟨_, upd_same, (EntsX.put .nil h1 h2 dp r rw').fz (f _), putX_ne _ _ _ _⟩)⟩
      · rw [en.okn z] at ok; cases ok
  · cases k with
    | k q => rw [r.keyK h]; exact ⟨_, .inl (.inl ⟨xs, q, e, rfl, line_lt (by rw [en.length]; exact hl), rfl⟩), .inr (.inl ⟨_, upd_same, (en.put rw').fz (f _), putK_ne _ _ _⟩)⟩
    | t ks => rw [en.ok z] at ok; cases ok
    | n q => rw [en.okn z] at ok; cases ok
  · cases k with
    | k q => rw [(en.ok z).2] at ok; cases ok
    | t ks => rw [(en.ok z).1] at ok; cases ok
    | n q =>
      obtain ⟨b, rfl, nk, h1, h2, dp⟩ := r.keyN h
      exact ⟨_, .inr ⟨xs, q, b, .inl e, en.kx, rfl, nk, dp, line_lt (by rw [en.length]; exact hl), rfl⟩, .inr (.inr ⟨_, upd_same, (en.put h1 h2 dp r rw').fz (f _), putX_ne _ _ _ _⟩)⟩
end
/-! ### rules -/
def getY (c k : D) : Option (Option D) := match c with
  | .dict kvs => (keyY k).bind fun q => if okY kvs q = true then some (lookY kvs q) else none
  | _ => none
def isSomeB {α : Type} : Option α → Bool
  | some _ => true
  | none => false
def inY (k c : D) : Option D := (getY c k).map fun o => .bool (isSomeB o)
def notInY (k c : D) : Option D := (getY c k).map fun o => .bool (!isSomeB o)
def ixY (c k : D) : Option D := (getY c k).bind id
theorem RelR.some {E : Ev} {A : Addr → Prop} {H : Hp} {o : Option V} {b : Option D} (r : RelR E A H o b) : o.isSome = isSomeB b := by
  rcases r with ⟨rfl, rfl⟩ | ⟨v, d, rfl, rfl, _⟩ <;> rfl
def rDIn (E : Ev) (neg : Bool) : R2 := fun x y H Q => ∃ a o, y = .ref a ∧ AGet E H a x o ∧ Q (.bl (if neg then !o.isSome else o.isSome)) H
theorem op_dIn {X : Cx} (hu : X.A.units + 65 < cLine) : OpR X (compareOp .In) (rDIn (evX X) false) := by
  intro pins s σ H x y v u Q I rx ry ⟨a, o, e, g, q⟩
  subst e
  obtain rfl : u = Value.ref a := ry
  exact a_in hu I g rx fun s' I' => ⟨.bl o.isSome, H, I', rfl, q⟩
theorem op_dNotIn {X : Cx} (hu : X.A.units + 65 < cLine) : OpR X (compareOp .NotIn) (rDIn (evX X) true) := by
  intro pins s σ H x y v u Q I rx ry ⟨a, o, e, g, q⟩
  subst e
  obtain rfl : u = Value.ref a := ry
  exact a_notIn hu I g rx fun s' I' => ⟨.bl (!o.isSome), H, I', rfl, q⟩
theorem getY_some {c k : D} {o : Option D} (h : getY c k = some o) : ∃ kvs q, c = .dict kvs ∧ keyY k = some q ∧ okY kvs q = true ∧ o = lookY kvs q := by
  unfold getY at h
  split at h
  · simp only [Option.bind_eq_some_iff] at h
    obtain ⟨q, h1, h2⟩ := h
    split at h2
    · cases h2; exact ⟨_, q, rfl, h1, by assumption, rfl⟩
    · cases h2
  · cases h
theorem sr_dIn {E : Ev} : SndRS E (rDIn E false) inY := by
  intro A H x y dx dy dz rx ry e Q hq
  unfold inY at e
  simp only [Option.map_eq_some_iff] at e
  obtain ⟨o, h1, h2⟩ := e
  obtain ⟨kvs, q, rfl, h3, h4, rfl⟩ := getY_some h1
  cases h2
  obtain ⟨a, o, rfl, g, rr, _⟩ := ry.dget rx h3 h4
  refine ⟨a, o, rfl, g, ?_⟩
  rw [if_neg Bool.false_ne_true, rr.some]
  exact hq _ fun _ _ => .bl _
theorem sr_dNotIn {E : Ev} : SndRS E (rDIn E true) notInY := by
  intro A H x y dx dy dz rx ry e Q hq
  unfold notInY at e
  simp only [Option.map_eq_some_iff] at e
  obtain ⟨o, h1, h2⟩ := e
  obtain ⟨kvs, q, rfl, h3, h4, rfl⟩ := getY_some h1
  cases h2
  obtain ⟨a, o, rfl, g, rr, _⟩ := ry.dget rx h3 h4
  refine ⟨a, o, rfl, g, ?_⟩
  rw [if_pos rfl, rr.some]
  exact hq _ fun _ _ => .bl _
section
variable {X : Cx} {a b c e : Expr} {f f1 f2 f3 : Fe} {pos p' p2 : Pos} {i : Nat} {x : Str}
theorem ve_inY (hu : X.A.units + 65 < cLine) (ha : VE X a f1) (hb : VE X b f2) (hm : behindInMarks .In b = false := by rfl) : VE X (.Compare a [.In] [b] pos) (eBin inY f1 f2) := ve_cmp (op_dIn hu) sr_dIn.r ha hb hm
theorem vt_inY (hu : X.A.units + 65 < cLine) (ha : VE X a f1) (hb : VE X b f2) (hm : behindInMarks .In b = false := by rfl) : VT X (.Compare a [.In] [b] pos) (eBin inY f1 f2) := vt_cmp (op_dIn hu) sr_dIn.r ha hb hm
theorem ve_notInY (hu : X.A.units + 65 < cLine) (ha : VE X a f1) (hb : VE X b f2) (hm : behindInMarks .NotIn b = false := by rfl) : VE X (.Compare a [.NotIn] [b] pos) (eBin notInY f1 f2) := ve_cmp (op_dNotIn hu) sr_dNotIn.r ha hb hm
theorem vt_notInY (hu : X.A.units + 65 < cLine) (ha : VE X a f1) (hb : VE X b f2) (hm : behindInMarks .NotIn b = false := by rfl) : VT X (.Compare a [.NotIn] [b] pos) (eBin notInY f1 f2) := vt_cmp (op_dNotIn hu) sr_dNotIn.r ha hb hm
/-- d[k] of a datum -/
theorem ve_ixY (hu : X.A.units + 65 < cLine) (ha : VE X a f1) (hb : VE X b f2) (hs : NoSl b := by exact fun _ _ => rfl) : VE X (.Subscript a b pos) (eBin ixY f1 f2) := by
  obtain ⟨ta, pa, sa⟩ := ha.ex
  obtain ⟨tb, pb, sb⟩ := hb.ex
  refine ⟨_, pe_aget hu pa pb hs, ?_⟩
  intro G W σ H s d s' R hf Q hq
  unfold eBin at hf
  simp only [Option.bind_eq_some_iff, Option.map_eq_some_iff] at hf
  obtain ⟨⟨dx, s1⟩, e1, ⟨dy, s2⟩, e2, z, e3, e4⟩ := hf
  cases e4
  refine sa G W σ H s dx s1 R e1 _ fun u H1 R1 z1 p1 => sb G W σ H1 s1 dy s2 R1 e2 _ fun v H2 R2 z2 p2 => ?_
  unfold ixY at e3
  simp only [Option.bind_eq_some_iff, id] at e3
  obtain ⟨o, h1, h2⟩ := e3
  obtain ⟨kvs, q, rfl, h3, h4, rfl⟩ := getY_some h1
  obtain ⟨a, o, rfl, g, rr, _⟩ := (p1.fz z2).dget p2 h3 h4
  rcases rr with ⟨_, z⟩ | ⟨v', d', rfl, z, rv⟩
  · rw [h2] at z; cases z
  · rw [h2] at z; cases z
    exact ⟨a, v', rfl, g, hq v' H2 R2 (z1.trans z2) rv⟩
/-- own dicts -/
def S.ownY (s : S) (i : Nat) : Option (List (D × D)) := match s.rho[i]? with
  | some (.own (.dict kvs)) => some kvs
  | _ => none
theorem ownY_some {s : S} {kvs : List (D × D)} (h : s.ownY i = some kvs) : s.rho[i]? = some (.own (.dict kvs)) := by
  unfold S.ownY at h
  split at h
  · rename_i e; cases h; exact e
  · cases h
/-- {} -/
theorem vf_dict0 : VF X (.Dict [] [] pos) (eC (.dict [])) := by
  refine ⟨_, pe_dnewT, fun G W σ H s d s' R hf Q hq => ?_⟩
  cases hf
  exact fun p hn => hq p _ hn (R.laid hn) (Fz.laid hn G W) (.inl ⟨[], upd_same, .nil⟩)
def eDO (i : Nat) (g : D → D → Option D) (f : Fe) : Fe := fun s => (f s).bind fun (y, s1) => (s1.ownY i).bind fun kvs => (g y (.dict kvs)).map fun z => (z, s1)
theorem snd_inYO {E : Ev} {t : TE} (sn : SndE E t f) : SndE E (tOp (rDIn E false) t (tVar i)) (eDO i inY f) := by
  intro G W σ H s d s' R hf Q hq
  unfold eDO at hf
  simp only [Option.bind_eq_some_iff, Option.map_eq_some_iff] at hf
  obtain ⟨⟨y, s1⟩, e1, kvs, e2, z, e3, e4⟩ := hf
  cases e4
  refine sn G W σ H s y _ R e1 _ fun v H1 R1 z1 p1 => ?_
  obtain ⟨a, w1, w2, t1⟩ := R1.own i _ (ownY_some e2)
  refine ⟨_, w2, ?_⟩
  unfold inY at e3
  simp only [Option.map_eq_some_iff] at e3
  obtain ⟨o, h1, h2⟩ := e3
  obtain ⟨kvs', q, h0, h3, h4, rfl⟩ := getY_some h1
  cases h0
  cases h2
  obtain ⟨o, g, rr, _⟩ := t1.dget p1 h3 h4
  refine ⟨a, o, rfl, g, ?_⟩
  rw [if_neg Bool.false_ne_true, rr.some]
  exact hq _ H1 R1 z1 (.bl _)
theorem snd_notInYO {E : Ev} {t : TE} (sn : SndE E t f) : SndE E (tOp (rDIn E true) t (tVar i)) (eDO i notInY f) := by
  intro G W σ H s d s' R hf Q hq
  unfold eDO at hf
  simp only [Option.bind_eq_some_iff, Option.map_eq_some_iff] at hf
  obtain ⟨⟨y, s1⟩, e1, kvs, e2, z, e3, e4⟩ := hf
  cases e4
  refine sn G W σ H s y _ R e1 _ fun v H1 R1 z1 p1 => ?_
  obtain ⟨a, w1, w2, t1⟩ := R1.own i _ (ownY_some e2)
  refine ⟨_, w2, ?_⟩
  unfold notInY at e3
  simp only [Option.map_eq_some_iff] at e3
  obtain ⟨o, h1, h2⟩ := e3
  obtain ⟨kvs', q, h0, h3, h4, rfl⟩ := getY_some h1
  cases h0
  cases h2
  obtain ⟨o, g, rr, _⟩ := t1.dget p1 h3 h4
  refine ⟨a, o, rfl, g, ?_⟩
  rw [if_pos rfl, rr.some]
  exact hq _ H1 R1 z1 (.bl _)
theorem ve_inYO (i : Nat) (nv : NV X i x) (hu : X.A.units + 65 < cLine) (hb : VE X b f) (hm : behindInMarks .In (.Name x p') = false := by rfl) : VE X (.Compare b [.In] [.Name x p'] pos) (eDO i inY f) := by
  obtain ⟨t, p, sn⟩ := hb.ex
  exact ⟨_, pe_cmpR (op_dIn hu) p (pe_var nv.hN nv.hv nv.hd nv.hcd) hm, snd_inYO sn⟩
theorem vt_inYO (i : Nat) (nv : NV X i x) (hu : X.A.units + 65 < cLine) (hb : VE X b f) (hm : behindInMarks .In (.Name x p') = false := by rfl) : VT X (.Compare b [.In] [.Name x p'] pos) (eDO i inY f) := by
  obtain ⟨t, p, sn⟩ := hb.ex
  exact ⟨_, pt_cmpR (op_dIn hu) p (pe_var nv.hN nv.hv nv.hd nv.hcd) hm, snd_test (snd_inYO sn)⟩
theorem ve_notInYO (i : Nat) (nv : NV X i x) (hu : X.A.units + 65 < cLine) (hb : VE X b f) (hm : behindInMarks .NotIn (.Name x p') = false := by rfl) : VE X (.Compare b [.NotIn] [.Name x p'] pos) (eDO i notInY f) := by
  obtain ⟨t, p, sn⟩ := hb.ex
  exact ⟨_, pe_cmpR (op_dNotIn hu) p (pe_var nv.hN nv.hv nv.hd nv.hcd) hm, snd_notInYO sn⟩
theorem vt_notInYO (i : Nat) (nv : NV X i x) (hu : X.A.units + 65 < cLine) (hb : VE X b f) (hm : behindInMarks .NotIn (.Name x p') = false := by rfl) : VT X (.Compare b [.NotIn] [.Name x p'] pos) (eDO i notInY f) := by
  obtain ⟨t, p, sn⟩ := hb.ex
  exact ⟨_, pt_cmpR (op_dNotIn hu) p (pe_var nv.hN nv.hv nv.hd nv.hcd) hm, snd_test (snd_notInYO sn)⟩
/-- d[k] of an own dict -/
def eIxYO (i : Nat) (f : Fe) : Fe := fun s => (s.ownY i).bind fun _ => (f s).bind fun (y, s1) => (s1.ownY i).bind fun kvs => (ixY (.dict kvs) y).map fun z => (z, s1)
theorem ve_ixYO (i : Nat) (nv : NV X i x) (hu : X.A.units + 65 < cLine) (hb : VE X b f) (hs : NoSl b := by exact fun _ _ => rfl) : VE X (.Subscript (.Name x p') b pos) (eIxYO i f) := by
  obtain ⟨t, p, sn⟩ := hb.ex
  refine ⟨_, pe_aget hu (pe_var nv.hN nv.hv nv.hd nv.hcd) p hs, ?_⟩
  intro G W σ H s d s' R hf Q hq
  unfold eIxYO at hf
  simp only [Option.bind_eq_some_iff, Option.map_eq_some_iff] at hf
  obtain ⟨kvs0, e0, ⟨y, s1⟩, e1, kvs, e2, z, e3, e4⟩ := hf
  cases e4
  obtain ⟨a, w1, w2, t0⟩ := R.own i _ (ownY_some e0)
  refine ⟨_, w2, sn G W σ H s y _ R e1 _ fun v H1 R1 z1 p1 => ?_⟩
  obtain ⟨a', w1', w2', t1⟩ := R1.own i _ (ownY_some e2)
  rw [w1] at w1'; cases w1'
  unfold ixY at e3
  simp only [Option.bind_eq_some_iff, id] at e3
  obtain ⟨o, h1, h2⟩ := e3
  obtain ⟨kvs', q, h0, h3, h4, rfl⟩ := getY_some h1
  cases h0
  obtain ⟨o, g, rr, _⟩ := t1.dget p1 h3 h4
  rcases rr with ⟨_, z⟩ | ⟨v', d', rfl, z, rv⟩
  · rw [h2] at z; cases z
  · rw [h2] at z; cases z
    exact ⟨a, v', rfl, g, hq v' H1 R1 z1 rv⟩
/-- d[k] = v, of an own dict: first v, then k -/
def sPutY (i : Nat) (fk fv : Fe) : Fs := fun s => (fv s).bind fun (z, s1) => (s1.ownY i).bind fun _ => (fk s1).bind fun (y, s2) => (s2.ownY i).bind fun kvs => (keyY y).bind fun q =>
  if okY kvs q = true ∧ kvs.length < 100000 then some (.next, s2.put i (.own (.dict (putY kvs q z)))) else none
theorem vs_putY (i : Nat) (nv : NV X i x) (hu : X.A.units + 65 < cLine) (hk : VE X b f1) (hv : VE X e f2) (hs : swapsWith e (some (.Subscript (.Name x p') b p2)) pos.line X.env = pure false := by rfl) : VS X (.Assign [.Subscript (.Name x p') b p2] e pos) (sPutY i f1 f2) := by
  obtain ⟨tk, pk, sk⟩ := hk.ex
  obtain ⟨tv, pv, sv⟩ := hv.ex
  refine ⟨_, ps_aput hu (pe_var nv.hN nv.hv nv.hd nv.hcd) pk pv hs, fun G W σ H s Dn R po => ?_⟩
  unfold sPutY at po
  match e0 : f2 s, po with
  | none, po => exact po.elim
  | some (z, s1), po =>
    dsimp only [Option.bind] at po
    match e1 : s1.ownY i, po with
    | none, po => exact po.elim
    | some kvs0, po =>
      dsimp only at po
      match e2 : f1 s1, po with
      | none, po => exact po.elim
      | some (y, s2), po =>
        dsimp only at po
        match e3 : s2.ownY i, po with
        | none, po => exact po.elim
        | some kvs, po =>
          dsimp only at po
          match e4 : keyY y, po with
          | none, po => exact po.elim
          | some q, po =>
            dsimp only at po
            split at po
            · rename_i hc
              refine sv G W σ H s z s1 R e0 _ fun u H1 R1 z1 p1 => ?_
              obtain ⟨a, w1, w2, _⟩ := R1.own i _ (ownY_some e1)
              refine ⟨_, w2, sk G W σ H1 s1 y s2 R1 e2 _ fun v H2 R2 z2 p2 => ?_⟩
              obtain ⟨a', w1', _, t2⟩ := R2.own i _ (ownY_some e3)
              rw [w1] at w1'; cases w1'
              have av : Av G W a := .inr (.inl ⟨i, w1⟩)
              obtain ⟨o, dp, tp⟩ := t2.dput av p2 (p1.fz z2) e4 hc.1 hc.2
              exact ⟨a, _, rfl, dp, po W σ _ (R2.turn (ownY_some e3) w1 tp) ((z1.trans z2).trans (Fz.turn av)) Wk.refl⟩
            · exact po.elim
/-! ### walks over the keys of a dict that is a datum -/
def keysD : D → Option (List D)
  | .dict kvs => if okY kvs (.t []) = true then some (kvs.map (·.1)) else none
  | _ => none
def iterK (f : Fe) : Fa := fun s => (f s).bind fun (d, s1) => (keysD d).map fun ds => (ds, s1)
theorem vi_keys {tg : Expr} (h : VE X e f) : VI X tg e (iterK f) := by
  obtain ⟨t, p, sn⟩ := h.ex
  refine ⟨_, pi_keys p, ?_⟩
  intro G W σ H s ds s' R hf Rq hR
  unfold iterK at hf
  simp only [Option.bind_eq_some_iff, Option.map_eq_some_iff] at hf
  obtain ⟨⟨d, s1⟩, e1, ys, e2, e3⟩ := hf
  cases e3
  refine sn G W σ H s d _ R e1 _ fun v H1 R1 z1 p1 => ?_
  cases p1 <;> simp only [keysD] at e2
  all_goals first | (cases e2; done) | skip
  · rename_i a o xs kvs n e4 en
    split at e2
    · cases e2
      refine ⟨a, o, rfl, .inr ⟨xs, e4, hR _ H1 (fun H => H a = some (.frz o (.dT xs))) _ R1 z1 ⟨by rw [List.length_map, ← en.length]; exact walk_keysT, fun B H' z => (z a _ n e4).2, fun B i H' y H'' z fr hi hy => ?_⟩⟩⟩
      obtain ⟨rfl, k, w, q, hk, rfl, hq⟩ := hy
      rw [List.length_map] at hi
      obtain ⟨k', v', h1, nk, h2, _⟩ := en.get (List.getElem?_eq_getElem hi)
      rw [hk] at h1; cases h1
      refine ⟨Same.refl _, .tuple (k.map keyD), ?_, .tup (.inl ⟨fr.tup hq, hq⟩) (Rep.ofKeys k)⟩
      rw [List.getElem?_map, List.getElem?_eq_getElem hi, Option.map_some, h2]
    · cases e2
  · rename_i a o xs kvs n e4 en z
    rw [if_neg (by rw [en.ok z]; exact Bool.false_ne_true)] at e2
    cases e2
  · rename_i a o xs kvs n e4 en z
    rw [if_neg (by rw [(en.ok z).1]; exact Bool.false_ne_true)] at e2
    cases e2
end
end Fx
-- Fset0
namespace Fx
open PySem PySem.Spec PyProof.Rows L2
section
variable {P : Program} {w : World} {A : Around} {E : Value → Shared → Prop} {s : Shared}
abbrev set00 (w : World) : Obj := { cls := .type "set", dict := none, data := .set #[] 0 (.fresh 0 0 (!w.params.followText "set-order")) }
/-- set(xs), xs a list of ints -/
theorem set_of_ints {l : Addr} {items : Array Value} (ns : List Int) {Q : Value → Shared → Prop} (hh : A.handled = none) (hl : s.heap.IsList l items) (hit : IntsAre items.toList ns) (hb : ns.length + 1 < scanBound)
    (h : ∀ (h' : Heap) (tk c : Nat), SetR w h' s.heap.objs.size (fun j => decide (j ∈ ns)) c → c ≤ ns.length → (∀ b o, s.heap.get? b = some o → h'.get? b = some o) → Q (.ref s.heap.objs.size) { s with heap := h', toks := tk }) :
    wpAny (model P w) A (call (.type "set") [.ref l]) Q E s := by
  have hisz : items.size = ns.length := by have q := IntsAre.length hit; rw [Array.length_toList] at q; exact q
  obtain ⟨c, tl, hmro⟩ := F.called_set.mro
  have hmade := F.called_set.made; have hsub := F.called_set.sub
  refine wpAny_call (codeAny_of_tree ?_)
  show wpAny _ _ (callAny (.type "set") _) _ _ _
  refine wpAny_pure ⟨Code.quiet_builtin _ (by decide +kernel), codeAny_builtin F.entry_type_call ?_⟩
  rw [Around.under_plain (weight_type_call_type "set" [.ref l] []) rfl]
  have h1 := F.called_set.notType; have h2 := F.called_set.canCreate; have hct := F.typeCall_set_1 (.ref l)
  repeat (any_goals (first | assumption | wp_step))
  refine codeAny_mono (code_set_led1 (.ref l) (E := E) (Q₁ := fun obj s₁ => obj = .ref s.heap.objs.size ∧ s₁ = { s with heap := s.heap.push (set00 w) }) ⟨rfl, rfl⟩) fun r s₁ hr => ?_
  cases r with
  | error e => exact hr
  | ok fl =>
    cases fl with
    | ret obj =>
      obtain ⟨rfl, rfl⟩ := hr
      have hS : (s.heap.push (set00 w)).get? s.heap.objs.size = some (set00 w) := Heap.get?_push_size _ rfl
      have hT : Shared.TypeIs { s with heap := s.heap.push (set00 w) } (.ref s.heap.objs.size) "set" := ⟨_, hS, rfl⟩
      have hli := F.called_set.init.lookup; have hbi := F.called_set.init.bind (.ref s.heap.objs.size)
      repeat (any_goals (first | assumption | wp_step))
      refine codeAny_mono (codeAny_call_builtin (R := wants (fun r s₂ => r = .none ∧ ∃ h' tk c, s₂ = { s with heap := h', toks := tk } ∧ SetR w h' s.heap.objs.size (fun j => decide (j ∈ ns)) c ∧ c ≤ ns.length ∧ (∀ b o, s.heap.get? b = some o → h'.get? b = some o)) E) F.called_set.init.plain F.entry_set_init (check_set_init_1 hT ?_)) fun r₂ s₂ hr₂ => ?_
      · obtain ⟨ol, hol, hcl, nl, hdl⟩ := hl
        obtain ⟨ocls, odict, odata, oslots⟩ := ol
        simp only at hcl hdl
        subst hcl; subst hdl
        have hol' : (s.heap.push (set00 w)).get? l = some { cls := .type "list", dict := odict, data := .seq items nl, slots := oslots } := Heap.get?_push_of_some _ hol
        have hsls := F.sub_list_set
        have hslf := F.sub_list_frozenset
        have hne : (Value.type "list" == Value.type "dict") = false := by decide
        have hl1 : (s.heap.push (set00 w)).IsList l items := ⟨_, hol', rfl, nl, rfl⟩
        unfold Builtin.«set.__init__» noKeywords Builtin.Frozenset.updateFrom
        generalize hPI : pyIter = PI
        wp_walk
        subst hPI
        refine wpAny_pyIter_list hl1 ?_
        refine wpAny_bind (wpAny_runValue ?_)
        have hlS : l < s.heap.objs.size := Heap.lt_size hol
        have hh3 : A.in1.in1.in1.handled = none := by simp [hh]
        have hz1 : (s.heap.push (set00 w)).objs.size = s.heap.objs.size + 1 := Heap.size_push ..
        have hneI : l ≠ (s.heap.push (set00 w)).objs.size := by rw [Heap.size_push]; exact Nat.ne_of_lt (Nat.lt_succ_of_lt hlS)
        have hSf : s.heap.objs.size ∉ [(s.heap.push (set00 w)).objs.size, l] := by
          rw [Heap.size_push]; simp only [List.mem_cons, List.mem_singleton, List.not_mem_nil, or_false, not_or]; exact ⟨Nat.ne_of_lt (Nat.lt_succ_self _), Nat.ne_of_gt hlS⟩
        have hval : ∀ (i : Nat) (v : Value), items[i]? = some v → ∃ k t, ns[i]? = some k ∧ v = .int k t := fun i v hv => by
          have hi : i < ns.length := by rw [← hisz]; exact (Array.getElem?_eq_some_iff.mp hv).1
          obtain ⟨t, e⟩ := PyProof.Rows.IntsAre.int_at hit i v (by rw [Array.getElem?_toList]; exact hv)
          refine ⟨ns[i], t, List.getElem?_eq_getElem hi, ?_⟩
          rw [e, List.getD_eq_getElem?_getD, List.getElem?_eq_getElem hi] <;> rfl
        refine set_update_ints ((Walks.list hh3 _ l hneI items).toS) s.heap.objs.size hSf ns hisz hb hval (items.size - 0) 0 _ (by omega) (Nat.zero_le _) ⟨⟨_, Heap.get?_push_size _ rfl, rfl, rfl⟩, (hl1.push _)⟩ ?hS0 ?hR
        case hS0 => exact ⟨0, Nat.le_refl 0, setR_new_at (Heap.get?_push_of_some _ hS)⟩
        case hR =>
          intro s' c' hm hc' hS'
          obtain ⟨h', g2, d', tk', os'⟩ := s'
          have eg : g2 = s.gens := hm.gens
          have ed : d' = s.drawn := hm.drawn
          have eo : os' = s.os := hm.os
          subst eg; subst ed; subst eo
          show wpAny _ _ _ _ _ _
          refine wpAny_pure ?_
          show wpAny _ _ (ret Value.none) _ _ _
          rw [hisz] at hc'
          refine wpAny_pure ⟨rfl, h', tk', c', rfl, hS', hc', fun b o e => ?_⟩
          have hb0 : b < s.heap.objs.size := Heap.lt_size e
          have hb2 : b ≠ (s.heap.push (set00 w)).objs.size := by rw [Heap.size_push]; exact Nat.ne_of_lt (Nat.lt_succ_of_lt hb0)
          exact hm.heap b o (by simp only [List.mem_cons, List.mem_singleton, List.not_mem_nil, or_false, not_or]; exact ⟨Nat.ne_of_lt hb0, hb2⟩) (Heap.get?_push_of_some _ (Heap.get?_push_of_some _ e))
      · cases r₂ with
        | error e => exact hr₂
        | ok fl₂ =>
          cases fl₂ with
          | ret r =>
            obtain ⟨rfl, h', tk, c', rfl, hS', hc', hk'⟩ := hr₂
            repeat (any_goals (first | assumption | wp_step))
            exact h _ _ _ hS' hc' hk'
          | _ => exact hr₂.elim
    | _ => exact hr.elim
end
end Fx
-- Fset
namespace Fx
open PySem PySem.Spec PyProof.Rows L2
section
variable {P : Program} {w : World} {A : Around} {E : Value → Shared → Prop} {s : Shared}
/-- sorted(s), s a set of which the items read as data: some order of them, sorted -/
theorem sorted_of_set {a : Addr} {es : Array (Int × Value)} {ep : Nat} {t : SetTable} {Q : Value → Shared → Prop} {enc : Value → PyData} (hh : A.handled = none) (ha : SetAt s.heap a es ep t) (hf : t.fits es.size = true) (hb : es.size < scanBound) (hr : Ris t.place.toList)
    (hl : w.params.followText "set-order" = true ∨ t.led = true) (hrd : ∀ v ∈ es.toList.map (·.2), ∃ as, Reads s.heap v (enc v) as) (hal : ∀ v v', PySem.W.alike (enc v) (enc v') = true) (hk : (∀ v, ∃ x r, enc v = .tuple (x :: r)) ∨ (∀ v, enc v ≠ .none ∧ ∀ xs, enc v ≠ .tuple xs)) (hu : ∀ v, A.units + 9 + (enc v).depth < cLine)
    (hQ : ∀ s' p (vs out : List Value) (c : Nat), (∀ b o, s.heap.get? b = some o → s'.heap.get? b = some o) → s'.gens = s.gens → s'.os = s.os → s.heap.objs.size ≤ p → s'.heap.get? p = some (seqObj "list" out.toArray c) → vs.Perm (es.toList.map (·.2)) → out = vs.mergeSort (PySem.W.dataLe false enc) → Q (.ref p) s') :
    wpAny (model P w) A (call (.builtin "sorted") [.ref a]) Q E s := by
  refine Calls.call_function_entry kind_sorted plain_sorted entry_sorted (args_sorted1 _) ?_
  unfold Builtin.«sorted»
  refine wpAny_bind (m := checkCount "sorted" 1 1 _) (wpAny_pure ?_)
  refine wpAny_bind (collect_set (A := A.in1) hh ha hf hb hr hl fun s1 vs k1 hz g1 o1 pm => ?_)
  have hvl : vs.length = es.size := by rw [pm.length_eq, List.length_map, Array.length_toList]
  have hvz : vs.length ≤ sizeLine := by rw [hvl, sizeLine_eq]; unfold scanBound at hb; omega
  refine wpAny_bind (wpAny_newList ?_ hvz)
  have hoL : (s1.heap.push (seqObj "list" vs.toArray 0)).get? s1.heap.objs.size = some (seqObj "list" vs.toArray 0) := Heap.get?_push_size _ rfl
  have each : ∀ us : List Value, PySem.W.EachIs (fun u b => u = b) us us := fun us => by
    induction us with
    | nil => exact .nil
    | cons u us ih => exact .cons rfl ih
  have rds : ∀ us : List Value, (∀ v ∈ us, v ∈ vs) → PySem.W.EachIs (fun u (b : Value) => ∃ as, Reads (s1.heap.push (seqObj "list" vs.toArray 0)) u (enc b) as ∧ s1.heap.objs.size ∉ as) us us := fun us => by
    induction us with
    | nil => exact fun _ => .nil
    | cons u us ih =>
      intro hm
      refine .cons ?_ (ih fun v hv => hm v (List.mem_cons_of_mem _ hv))
      obtain ⟨as, rd⟩ := hrd u (pm.mem_iff.mp (hm u List.mem_cons_self))
      have rd1 : Reads s1.heap u (enc u) as := Reads.keeps k1 rd
      refine ⟨as, Reads.keeps (fun b o e => Heap.get?_push_of_some _ e) rd1, fun z => ?_⟩
      obtain ⟨o, e⟩ := PyProof.On.reads_mem_get rd1 _ z
      exact Nat.lt_irrefl _ (Heap.lt_size e)
  have hk' : PySem.W.Sortable (vs.map enc) := by
    rcases hk with hk | hk
    · exact PySem.W.Sortable.tuples hk
    · exact PySem.W.Sortable.others hk
  refine wpAny_bind (wpAny_holding (PySem.W.list_sort_data (s := { s1 with heap := s1.heap.push (seqObj "list" vs.toArray 0) }) (R := fun u b => u = b) (enc := enc) (bs := vs) hoL (each vs) (rds vs fun _ h => h) (PySem.W.AllAlike.of hal) hk' hvz (fun b _ => ?_) fun out ho he => ?_))
  · have := hu b
    show A.in1.units + 1 + (enc b).depth < cLine
    have e : A.in1.units ≤ A.units + 8 := ?_
    · omega
    · simp [Around.in1, Around.units]
  · have eo : out = vs.mergeSort (PySem.W.dataLe false enc) := by
      have q : ∀ {xs ys : List Value}, PySem.W.EachIs (fun u b => u = b) xs ys → xs = ys := fun {xs ys} h => by
        induction h with
        | nil => rfl
        | cons h _ ih => rw [h, ih]
      exact q he
    obtain ⟨c, hc⟩ := sortedHeap_at (vs := vs) (out := out.toArray) hoL
    refine wpAny_pure ⟨_, rfl, hQ _ s1.heap.objs.size vs out c (fun b u e => ?_) g1 o1 hz hc pm eo⟩
    have q := k1 b u e
    have hlt := Heap.lt_size q
    show (sortedHeap (s1.heap.push (seqObj "list" vs.toArray 0)) s1.heap.objs.size vs out.toArray).get? b = some u
    rw [sortedHeap_old (Nat.ne_of_lt hlt) (by rw [size_push']; exact Nat.lt_succ_of_lt hlt)]
    exact Heap.get?_push_of_some _ q
end
end Fx
-- FsetG
namespace Fx
open PySem PySem.Spec PyProof.Rows L2
/-! ### tables of any mask whose round is full (7, 31, 127, 511): for sets of more than 76 tuples -/
def Full (m : Nat) : Prop := (∀ j, j ≤ m → ∃ b, b ≤ m ∧ lcgN m b = j) ∧ lcgN m (m + 1) = 0
theorem full_by {m : Nat} (h : ((List.range (m + 1)).all fun j => (List.range (m + 1)).any fun b => lcgN m b == j) = true) (z : lcgN m (m + 1) = 0) : Full m := by
  refine ⟨fun j hj => ?_, z⟩
  rw [List.all_eq_true] at h
  have := h j (List.mem_range.mpr (by omega))
  rw [List.any_eq_true] at this
  obtain ⟨b, hb, e⟩ := this
  exact ⟨b, by have := List.mem_range.mp hb; omega, by simpa using e⟩
theorem full_mask {m : Nat} (h : MaskOk m) : Full m := ⟨fun j hj => lcg_all h hj, lcg_round h⟩
/-- the round in one list: no slot is computed twice -/
def rnd (m : Nat) : Nat → Nat → List Nat
  | 0, _ => []
  | n + 1, i => i :: rnd m n ((i * 5 + 1) % (m + 1))
theorem rnd_get (m : Nat) : ∀ (n b i : Nat), (rnd m n (lcgN m b))[i]? = if i < n then some (lcgN m (b + i)) else none
  | 0, _, _ => rfl
  | n + 1, b, 0 => by rfl
  | n + 1, b, i + 1 => by
    show (rnd m n (lcgN m (b + 1)))[i]? = _
    rw [rnd_get m n (b + 1) i, show b + 1 + i = b + (i + 1) by omega]
    simp only [Nat.add_lt_add_iff_right]
theorem full_511 : Full 511 := by
  have k : ((List.range 512).all fun j => (rnd 511 512 0).contains j) = true := by decide +kernel
  have z : lcgN 511 512 = 0 := by decide +kernel
  refine ⟨fun j hj => ?_, z⟩
  rw [List.all_eq_true] at k
  have := k j (List.mem_range.mpr (by omega))
  rw [List.contains_iff_mem] at this
  obtain ⟨i, hi⟩ := List.mem_iff_getElem?.mp this
  have g := rnd_get 511 512 0 i
  rw [show lcgN 511 0 = 0 from rfl, hi] at g
  split at g
  · exact ⟨i, by omega, by rw [Nat.zero_add] at g; exact (Option.some.inj g).symm⟩
  · cases g
section
variable {m : Nat} (F : Full m)
include F
theorem Full.again : ∀ k, lcgN m (m + 1 + k) = lcgN m k
  | 0 => F.2
  | k + 1 => by
    show (lcgN m (m + 1 + k) * 5 + 1) % (m + 1) = (lcgN m k * 5 + 1) % (m + 1)
    rw [Full.again k]
/-- the search meets each slot -/
theorem Full.meets (h : Int) {j : Nat} (hj : j ≤ m) : ∃ k, k < 10 * SetTable.turns m ∧ way m h k = j := by
  obtain ⟨a, ha, ea⟩ := F.1 _ (runI_le m (SetTable.bits h) 12)
  obtain ⟨c, hc, ec⟩ := F.1 j hj
  have hn : ∃ n, n ≤ m ∧ lcgN m (a + n) = j := by
    by_cases q : a ≤ c
    · exact ⟨c - a, by omega, by rw [show a + (c - a) = c by omega]; exact ec⟩
    · exact ⟨m + 1 + c - a, by omega, by rw [show a + (m + 1 + c - a) = m + 1 + c by omega, F.again]; exact ec⟩
  obtain ⟨n, hn, e⟩ := hn
  obtain ⟨k, hk, e2⟩ := run_nth m (SetTable.bits h) (12 + n)
  refine ⟨k, by unfold SetTable.turns; omega, ?_⟩
  show (nth m (runAt m (SetTable.bits h % (m + 1)) (SetTable.bits h)) k).j = j
  rw [e2]
  show runI m (SetTable.bits h) (12 + n) = j
  rw [runI_tail (bits_lt h), ← ea, lcgN_add, e]
end
/-- a table whose slots are found again from their hashes -/
structure TabG (t : SetTable) (hs : List Int) : Prop where
  ris : Ris t.place.toList
  dm : t.dummies = #[]
  sz : t.place.size = hs.length
  full : Full t.mask
  odd : t.mask % 2 = 1
  bd : ∀ x ∈ t.place.toList, x ≤ t.mask
  reach : ∀ (i : Nat) (h : Int) (j : Nat), hs[i]? = some h → t.place.toList[i]? = some j → ∃ k, way t.mask h k = j ∧ ∀ k', k' < k → way t.mask h k' ∈ t.place.toList
theorem TabG.of {t : SetTable} {hs : List Int} (T : TabOk t hs) : TabG t hs := ⟨T.ris, T.dm, T.sz, full_mask T.mok, mask_odd T.mok, T.bd, T.reach⟩
section
variable {t : SetTable} {hs : List Int} (T : TabG t hs)
include T
/-- fewer tuples than slots: the search comes to an empty slot -/
theorem TabG.first (hl : hs.length ≤ t.mask) (h : Int) : ∃ K, K < 10 * SetTable.turns t.mask ∧ way t.mask h K ∉ t.place.toList ∧ ∀ k, k < K → way t.mask h k ∈ t.place.toList := by
  obtain ⟨j, hj, nj⟩ := st_missing t.place.toList (t.mask + 1) (by rw [Array.length_toList, T.sz]; omega)
  obtain ⟨k, hk, e⟩ := T.full.meets h (show j ≤ t.mask by omega)
  obtain ⟨K, a, b, c⟩ := st_least (p := fun k => way t.mask h k ∉ t.place.toList) k (show way t.mask h k ∉ _ by rw [e]; exact nj)
  exact ⟨K, by omega, b, fun k' hk' => Classical.not_not.mp (c k' hk')⟩
/-- what has the hash h stands ahead of that slot -/
theorem TabG.before {h : Int} {K i j : Nat} (hK : way t.mask h K ∉ t.place.toList) (hi : hs[i]? = some h) (hj : t.place.toList[i]? = some j) : ∃ k, k < K ∧ way t.mask h k = j := by
  obtain ⟨k, e, b⟩ := T.reach i h j hi hj
  by_cases q : k < K
  · exact ⟨k, q, e⟩
  · exfalso
    by_cases z : k = K
    · subst z; exact hK (e ▸ List.mem_of_getElem? hj)
    · exact hK (b K (by omega))
end
theorem way_in (m : Nat) (h : Int) (k : Nat) : way m h k ≤ m := by
  have b : SetTable.bits h % (m + 1) ≤ m := Nat.le_of_lt_succ (Nat.mod_lt _ (Nat.succ_pos _))
  obtain ⟨e1, e2, _⟩ := runEnd_bd b
  have n : (way m h k) + _ ≤ m := nth_in (m := m) k (runAt m (SetTable.bits h % (m + 1)) (SetTable.bits h)) (by
    show SetTable.bits h % (m + 1) + (SetTable.runEnd m (SetTable.bits h % (m + 1)) - SetTable.bits h % (m + 1)) ≤ m
    omega)
  omega
/-- one put in -/
theorem TabG.put {t : SetTable} {hs : List Int} (T : TabG t hs) {h : Int} {K : Nat} (free : way t.mask h K ∉ t.place.toList) (held : ∀ k, k < K → way t.mask h k ∈ t.place.toList) :
    (t.put (way t.mask h K)).2 = SetTable.below t.place (way t.mask h K) ∧ SetTable.below t.place (way t.mask h K) ≤ hs.length ∧
    TabG (t.put (way t.mask h K)).1 (hs.take (SetTable.below t.place (way t.mask h K)) ++ h :: hs.drop (SetTable.below t.place (way t.mask h K))) ∧
    (t.put (way t.mask h K)).1.mask = t.mask ∧ (t.put (way t.mask h K)).1.led = t.led ∧ (t.put (way t.mask h K)).1.plain = t.plain ∧ (t.put (way t.mask h K)).1.moves = t.moves ∧ (t.put (way t.mask h K)).1.finger = t.finger ∧
    (t.put (way t.mask h K)).1.fill = hs.length + 1 := by
  have wb := way_in t.mask h K
  have el : t.place.toList.length = hs.length := by rw [Array.length_toList, T.sz]
  have c1 : SetTable.below t.place (way t.mask h K) ≤ t.place.size := (below_cut T.ris _).1
  have cp : SetTable.below t.place (way t.mask h K) ≤ t.place.toList.length := by rw [Array.length_toList]; exact c1
  have ch : SetTable.below t.place (way t.mask h K) ≤ hs.length := el ▸ cp
  have np : t.place[SetTable.below t.place (way t.mask h K)]? ≠ some (way t.mask h K) := fun e => free (List.mem_of_getElem? (by rw [Array.getElem?_toList]; exact e))
  have ep := put_place t (way t.mask h K)
  have es : (t.put (way t.mask h K)).1.place.size = hs.length + 1 := by rw [← Array.length_toList, ep, len_ins _ cp, el]
  have more : ∀ {x : Nat}, x ∈ t.place.toList → x ∈ (t.put (way t.mask h K)).1.place.toList := fun hx => by rw [ep]; exact mem_ins.2 (.inr hx)
  have dm := put_dm T.dm (way t.mask h K)
  refine ⟨rfl, ch, { ris := ris_insert T.ris np, dm := dm, sz := by rw [len_ins _ ch]; exact es, full := T.full, odd := T.odd, bd := fun x hx => ?_, reach := fun i g j a b => ?_ }, rfl, rfl, rfl, rfl, rfl, by unfold SetTable.fill; rw [es, dm]; rfl⟩
  · rw [ep] at hx
    rcases mem_ins.1 hx with rfl | q
    · exact wb
    · exact T.bd x q
  · rw [tins_get hs ch] at a
    rw [ep, tins_get _ cp] at b
    suffices q : ∃ k, way t.mask g k = j ∧ ∀ k', k' < k → way t.mask g k' ∈ t.place.toList from q.elim fun k q => ⟨k, q.1, fun k' l => more (q.2 k' l)⟩
    rcases Nat.lt_trichotomy i (SetTable.below t.place (way t.mask h K)) with c | c | c
    · rw [if_pos c] at a b
      exact T.reach i g j a b
    · rw [if_neg (by omega), if_pos c] at a b
      obtain rfl := Option.some.inj a
      exact ⟨K, Option.some.inj b, held⟩
    · rw [if_neg (by omega), if_neg (by omega)] at a b
      exact T.reach _ g j a b
/-! ### all laid anew, in a table of a full round -/
section
variable {m : Nat} (F : Full m)
include F
theorem Full.runs (h : Int) {j : Nat} (hj : j ≤ m) : ∃ n, n ≤ m + 12 ∧ runI m (SetTable.bits h) n = j := by
  obtain ⟨a, ha, ea⟩ := F.1 _ (runI_le m (SetTable.bits h) 12)
  obtain ⟨c, hc, ec⟩ := F.1 j hj
  have on : ∀ n, lcgN m (a + n) = j → runI m (SetTable.bits h) (12 + n) = j := fun n e => by rw [runI_tail (bits_lt h), ← ea, lcgN_add, e]
  by_cases q : a ≤ c
  · exact ⟨12 + (c - a), by omega, on _ (by rw [show a + (c - a) = c by omega]; exact ec)⟩
  · exact ⟨12 + (m + 1 + c - a), by omega, on _ (by rw [show a + (m + 1 + c - a) = m + 1 + c by omega, F.again]; exact ec)⟩
theorem Full.finds (owner : Array (Option Nat)) (h : Int) {j : Nat} (hj : j ≤ m) (open' : oAt owner j = none) :
    ∃ K, SetTable.layClean.free m owner (SetTable.turns m) (SetTable.bits h % (m + 1)) (SetTable.bits h) = some (way m h K) ∧ oAt owner (way m h K) = none ∧ ∀ k, k < K → oAt owner (way m h k) ≠ none := by
  obtain ⟨n, hn, e⟩ := F.runs h hj
  have at_ : oAt owner (way m h (off m (SetTable.bits h % (m + 1)) (SetTable.bits h) n)) = none := by
    have w : way m h (off m (SetTable.bits h % (m + 1)) (SetTable.bits h) n) = j := by
      show (nth m _ (off m _ _ n)).j = j
      rw [nth_off, itL_run]
      exact e
    rw [w]; exact open'
  obtain ⟨K, le, k2, k3⟩ := st_least (p := fun k => oAt owner (way m h k) = none) _ at_
  refine ⟨K, free_spec m owner (SetTable.turns m) n _ _ K (by unfold SetTable.turns; omega) le (fun k l => ?_) (Option.isNone_iff_eq_none.mpr k2), k2, k3⟩
  exact Bool.eq_false_iff.mpr fun z => k3 k l (Option.isNone_iff_eq_none.mp z)
theorem Full.step {done : List Int} {owner : Array (Option Nat)} (W : Own m done owner) (few : done.length ≤ m) (h : Int) :
    ∃ j, SetTable.layClean.free m owner (SetTable.turns m) (SetTable.bits h % (m + 1)) (SetTable.bits h) = some j ∧ Own m (done ++ [h]) (owner.setIfInBounds j (some done.length)) := by
  obtain ⟨ps, lps, allps⟩ := W.ps
  obtain ⟨y, ly, ny⟩ := st_missing ps (m + 1) (by omega)
  obtain ⟨K, e1, e2, e3⟩ := F.finds owner h (Nat.le_of_lt_succ ly) (Classical.not_not.mp fun z => ny (allps y (Nat.le_of_lt_succ ly) z))
  have wb := way_in m h K
  generalize eK : way m h K = x at e1 e2 wb
  have inn : x < owner.size := by rw [W.sz]; omega
  have here := oAt_set_self (some done.length) inn
  have kept : ∀ {i k : Nat}, oAt owner i = some k → oAt (owner.setIfInBounds x (some done.length)) i = some k := fun {i k} q => by
    rw [oAt_set_ne _ (fun z => by rw [z, e2] at q; cases q), q]
  have taken : ∀ {i : Nat}, oAt owner i ≠ none → oAt (owner.setIfInBounds x (some done.length)) i ≠ none := fun {i} q => by
    obtain ⟨k, hk⟩ := Option.ne_none_iff_exists'.mp q
    rw [kept hk]; exact Option.some_ne_none k
  refine ⟨x, e1, { sz := by rw [Array.size_setIfInBounds, W.sz], at_ := fun j k jm q => ?_, all := fun k kl => ?_, ps := ⟨x :: ps, by simp [lps], fun j jm q => ?_⟩ }⟩
  · by_cases c : j = x
    · subst c
      rw [here] at q
      obtain rfl := Option.some.inj q
      exact ⟨h, K, by simp, eK, fun k' l => taken (e3 k' l)⟩
    · rw [oAt_set_ne _ c] at q
      obtain ⟨g, G, a1, a2, a3⟩ := W.at_ j k jm q
      have lt := (List.getElem?_eq_some_iff.mp a1).1
      exact ⟨g, G, by rw [List.getElem?_append_left lt]; exact a1, a2, fun k' l => taken (a3 k' l)⟩
  · rcases Nat.lt_or_ge k done.length with c | c
    · obtain ⟨j, jm, q⟩ := W.all k c
      exact ⟨j, jm, kept q⟩
    · rw [List.length_append, List.length_singleton] at kl
      have : k = done.length := by omega
      subst this
      exact ⟨x, wb, here⟩
  · by_cases c : j = x
    · exact c ▸ List.mem_cons_self
    · rw [oAt_set_ne _ c] at q
      exact List.mem_cons_of_mem _ (allps j jm q)
theorem Full.fold : ∀ (rest done : List Int) (owner : Array (Option Nat)), Own m done owner → done.length + rest.length ≤ m →
    ∃ o2, rest.foldl (stepF m) (some (owner, done.length)) = some (o2, done.length + rest.length) ∧ Own m (done ++ rest) o2
  | [], done, owner, W, _ => ⟨owner, rfl, by rw [List.append_nil]; exact W⟩
  | h :: rest, done, owner, W, few => by
    rw [List.length_cons] at few
    obtain ⟨j, e, W1⟩ := F.step W (by omega) h
    obtain ⟨o2, f, W2⟩ := Full.fold rest (done ++ [h]) _ W1 (by rw [List.length_append, List.length_singleton]; omega)
    rw [List.length_append, List.length_singleton] at f
    rw [List.append_assoc] at W2
    refine ⟨o2, ?_, W2⟩
    rw [List.foldl_cons, stepF_some e, f, List.length_cons, Nat.add_assoc, Nat.add_comm 1]
theorem Full.lay {hs : Array Int} (few : hs.size ≤ m) : ∃ owner, SetTable.layClean m hs = some owner ∧ Own m hs.toList owner := by
  obtain ⟨o2, f, W⟩ := F.fold hs.toList [] _ (Own.init m) (by rw [Array.length_toList]; simpa using few)
  refine ⟨o2, ?_, W⟩
  rw [layClean_eq]
  rw [show (0 : Nat) = ([] : List Int).length from rfl, f]
  rfl
end
/-- a table laid anew -/
theorem relaid_full (t : SetTable) {hs : Array Int} {wanted M : Nat} (ew : SetTable.sizeAbove wanted - 1 = M) (F : Full M) (od : M % 2 = 1) (few : hs.size ≤ M) :
    ∃ t' order, t.relaid hs wanted = some (t', order) ∧ order.toList.Perm (List.range hs.size) ∧ TabG t' (order.toList.map fun i => hs.getD i 0) ∧ t'.mask = M ∧ t'.led = t.led ∧ t'.plain = t.plain ∧ t'.dummies = #[] := by
  obtain ⟨owner, el, W⟩ := F.lay few
  have er : t.relaid hs wanted = some (tabOf t M owner, ((liveOf M owner).map (·.2)).toArray) := by
    rw [relaid_eq, ew, el]
    rfl
  have inl : ∀ {j k : Nat}, (j, k) ∈ liveOf M owner ↔ j ≤ M ∧ oAt owner j = some k := mem_live W.sz
  obtain ⟨r1, r2⟩ := ris_live (fun j => owner.getD j none) (List.range (M + 1)) (show Ris _ from List.pairwise_lt_range)
  have all : ∀ k, k < hs.size → k ∈ (liveOf M owner).map (·.2) := fun k hk => by
    obtain ⟨j, a, b⟩ := W.all k (by rw [Array.length_toList]; exact hk)
    exact List.mem_map.mpr ⟨(j, k), inl.mpr ⟨a, b⟩, rfl⟩
  have len : (liveOf M owner).length = hs.size := by
    obtain ⟨ps, p1, p2⟩ := W.ps
    have up : ((liveOf M owner).map (·.1)).length ≤ ps.length := nat_nodup_len _ _ (List.Pairwise.imp (fun z => Nat.ne_of_lt z) r1) fun x hx => by
      obtain ⟨⟨y, k⟩, hq, rfl⟩ := List.mem_map.mp hx
      obtain ⟨a, b⟩ := inl.mp hq
      exact p2 y a (by rw [b]; exact Option.some_ne_none k)
    have dn := nat_nodup_len (List.range hs.size) _ List.nodup_range fun k hk => all k (List.mem_range.mp hk)
    have hz : hs.toList.length = hs.size := rfl
    rw [List.length_map, p1] at up
    rw [List.length_range, List.length_map] at dn
    omega
  refine ⟨tabOf t M owner, _, er, perm_range _ _ (by rw [List.length_map]; exact len) all, { ris := r1, dm := rfl, sz := ?_, full := F, odd := od, bd := fun x hx => Nat.le_of_lt_succ (List.mem_range.mp (r2 x hx)), reach := fun i g j a b => ?_ }, rfl, rfl, rfl, rfl⟩
  · show ((liveOf M owner).map (·.1)).toArray.size = _
    simp
  · have a' : (((liveOf M owner).map (·.2)).map fun i => hs.getD i 0)[i]? = some g := a
    have b' : ((liveOf M owner).map (·.1))[i]? = some j := b
    obtain ⟨⟨y, k⟩, hq, ey⟩ := by
      rw [List.getElem?_map] at b'
      exact Option.map_eq_some_iff.mp b'
    rw [List.map_map, List.getElem?_map, hq] at a'
    obtain rfl : y = j := ey
    have eg : hs.getD k 0 = g := Option.some.inj a'
    obtain ⟨jm, ow⟩ := inl.mp (List.mem_of_getElem? hq)
    obtain ⟨g', K, c1, c2, c3⟩ := W.at_ y k jm ow
    have : g' = g := by
      rw [← eg, Array.getD_eq_getD_getElem?, ← Array.getElem?_toList, c1]
      rfl
    subst this
    refine ⟨K, c2, fun k' l => ?_⟩
    obtain ⟨v, hv⟩ := Option.ne_none_iff_exists'.mp (c3 k' l)
    exact List.mem_map.mpr ⟨(way M g' k', v), inl.mpr ⟨way_in M g' k', hv⟩, rfl⟩
end Fx
-- FsetB
namespace Fx
open PySem PySem.Spec PyProof.Rows L2
theorem nd_len {α : Type} [DecidableEq α] : ∀ {l m : List α}, l.Nodup → (∀ x ∈ l, x ∈ m) → l.length ≤ m.length
  | [], _, _, _ => Nat.zero_le _
  | a :: l, m, n, h => by
    obtain ⟨n1, n2⟩ := List.nodup_cons.mp n
    have ha := h a List.mem_cons_self
    have := nd_len (m := m.erase a) n2 fun x hx => (List.mem_erase_of_ne (fun e => n1 (by rw [← e]; exact hx))).mpr (h x (List.mem_cons_of_mem _ hx))
    rw [List.length_erase_of_mem ha] at this
    have : 0 < m.length := List.length_pos_of_mem ha
    rw [List.length_cons]
    omega
/-! ### sets of tuples: as many as a table of 128 takes, from lists of any length -/
section
variable {P : Program} {w : World} {A : Around} {E : Value → Shared → Prop} {s : Shared}
abbrev Rw := List (Addr × List Int)
/-- the place in the table where the search of h stands behind c steps -/
abbrev stp (t : SetTable) (h : Int) (c : Nat) : SetTable.Probe := nth t.mask (runAt t.mask (SetTable.bits h % (t.mask + 1)) (SetTable.bits h)) c
theorem size_308 : SetTable.sizeAbove (SetTable.grown 77) = 512 := by decide +kernel
structure TSet (P : Program) (w : World) (hp : Heap) (a : Addr) (L : Rw) (es : Array (Int × Value)) (ep : Nat) (t : SetTable) : Prop where
  obj : ∃ o, hp.get? a = some o ∧ o.ExactSet ∧ o.data = .set es ep t
  ent : es.toList = rowsOf P w L
  tbl : TabG t (L.map fun p => thash P w p.2)
  msk : t.mask = 7 ∨ t.mask = 31 ∨ t.mask = 127 ∨ t.mask = 511
  one : (L.map (·.2)).Nodup
  tups : ∀ p ∈ L, IsT P w hp p.2 p.1
  pln : t.plain = true
  way' : w.params.followText "set-order" = true ∨ t.led = true
  spare : L.length * 5 < t.mask * 3
variable {a : Addr} {L : Rw} {es : Array (Int × Value)} {ep : Nat} {t : SetTable}
theorem rowsOf_len (h : es.toList = rowsOf P w L) : es.size = L.length := by
  rw [← Array.length_toList, h, rowsOf, List.length_map]
theorem fits_of (hs : t.place.size = es.size) (hd : t.dummies = #[]) (hm : es.size ≤ t.mask) : t.fits es.size = true := by
  unfold SetTable.fits SetTable.fill
  rw [hd, hs]
  simpa using hm
theorem TSet.len (T : TSet P w s.heap a L es ep t) : es.size = L.length := rowsOf_len T.ent
theorem TSet.plc (T : TSet P w s.heap a L es ep t) : t.place.size = L.length := by have := T.tbl.sz; rwa [List.length_map] at this
theorem TSet.fit (T : TSet P w s.heap a L es ep t) : t.fits es.size = true := fits_of (by rw [T.plc, T.len]) T.tbl.dm (by have := T.spare; rw [T.len]; omega)
theorem TSet.at (T : TSet P w s.heap a L es ep t) {i : Nat} {p : Addr × List Int} (h : L[i]? = some p) : es[i]? = some (thash P w p.2, Value.ref p.1) := by
  have e : es.toList[i]? = some (thash P w p.2, Value.ref p.1) := by
    rw [T.ent, rowsOf, List.getElem?_map, h]
    rfl
  rwa [Array.getElem?_toList] at e
theorem TSet.stays (T : TSet P w s.heap a L es ep t) : ¬ t.gaveWay = true := by
  rw [SetTable.gaveWay, T.tbl.odd]
  decide
theorem stp_clear (t : SetTable) (h : Int) (c : Nat) : (stp t h c).dummy = none := by
  have go : ∀ (n : Nat) (p : SetTable.Probe), p.dummy = none → (nth t.mask p n).dummy = none := fun n => by
    induction n with
    | zero => exact fun _ z => z
    | succ n ih => exact fun p z => ih _ (by unfold adv; split <;> exact z)
  exact go c _ rfl
theorem stp_on (t : SetTable) (h : Int) (c d : Nat) : nth t.mask (stp t h c) d = stp t h (c + d) := (nth_add ..).symm
/-- the search from its c-th step on -/
theorem tset_seek (T : TSet P w s.heap a L es ep t) {x : Addr} {k : List Int} (hx : IsT P w s.heap k x) (hu : A.units < cLine) {z : Nat} (zb : z < 10 * SetTable.turns t.mask) (z0 : (stp t (thash P w k) z).j ∉ t.place.toList) (z1 : ∀ c, c < z → (stp t (thash P w k) c).j ∈ t.place.toList) {Q : SetFound → Shared → Prop} (yes : k ∈ L.map (·.2) → Q (.there none) s) (no : k ∉ L.map (·.2) → Q (.free (stp t (thash P w k) z).j false) s) :
    ∀ (f c : Nat) (sd : Option SetTable.Probe), sd.getD (t.probeStart (thash P w k)) = stp t (thash P w k) c → c ≤ z → z - c < f → (∀ (i : Nat) p, L[i]? = some p → p.2 = k → ∃ c', c ≤ c' ∧ c' < z ∧ t.place.toList[i]? = some (stp t (thash P w k) c').j) → wpAny (model P w) A (setSearchFrom a (.ref x) (thash P w k) true f sd) Q E s := by
  intro f
  induction f with
  | zero => intro c sd _ _ h; omega
  | succ f ih =>
    intro c sd hsd hc hf hre
    obtain ⟨o, ho, hex, hd⟩ := T.obj
    have key : ∀ (i : Nat) p, L[i]? = some p → (es[i]?.map (·.1)).getD 0 = thash P w p.2 := fun i p hp => by rw [T.at hp]; rfl
    have jc : ∀ d, (nth t.mask (stp t (thash P w k) c) d).j = (stp t (thash P w k) (c + d)).j := fun d => by rw [stp_on]
    have sp := go_spec t T.tbl.ris T.tbl.dm (fun i => (es[i]?.map (·.1)).getD 0) (thash P w k) (10 * SetTable.turns t.mask) (z - c) (stp t (thash P w k) c) (stp_clear t _ c) (by omega) (fun d hd' => by rw [jc]; exact z1 _ (by omega)) (by rw [jc, show c + (z - c) = z by omega]; exact z0)
    rw [setSearchFrom_succ]
    refine wpAny_bind (wpAny_setState_of ho hd T.fit ?_)
    dsimp only
    refine wp_if_neg T.stays ?_
    try refine wpAny_bind (wpAny_pure ?_)
    rcases sp with ⟨d, i, d1, d2, d3, d4, d5⟩ | ⟨d4, d5⟩
    · have met : t.probe (fun i => (es[i]?.map (·.1)).getD 0) (thash P w k) (sd.getD (t.probeStart (thash P w k))) = some (.candidate (stp t (thash P w k) (c + d)).j i (stp t (thash P w k) (c + (d + 1)))) := by
        rw [hsd, ← jc, ← stp_on]
        exact d5
      rw [met]
      dsimp only
      rw [jc] at d2
      have hi : i < L.length := by
        have := (List.getElem?_eq_some_iff.mp d2).1
        rw [Array.length_toList, T.plc] at this
        exact this
      obtain ⟨p, hp⟩ : ∃ p, L[i]? = some p := ⟨_, List.getElem?_eq_getElem hi⟩
      have pm := List.mem_of_getElem? hp
      have live : t.slot (stp t (thash P w k) (c + d)).j = .live i := slot_live T.tbl.ris d2
      have tail : wpAny (model P w) A (searchRest a (.ref x) (thash P w k) true f es t (stp t (thash P w k) (c + d)).j i (stp t (thash P w k) (c + (d + 1)))) Q E s := by
        unfold searchRest
        rw [T.at hp]
        dsimp only
        refine wpAny_bind (wpAny_holding (wpAny_eqBool_tuple hu (T.tups p pm) hx (wpAny_bind (wpAny_setState_of ho hd T.fit ?_))))
        dsimp only
        by_cases same : p.2 = k
        · exact wp_if_pos (by simp [same]) (wpAny_pure (yes (List.mem_map.mpr ⟨p, pm, same⟩)))
        · refine wp_if_neg (by simp [same]) ?_
          try refine wpAny_bind (wpAny_pure ?_)
          rw [sameMem]
          simp only [if_true, live, T.at hp]
          refine wpAny_bind (wpAny_isSame_ref_self (wpAny_bind (wpAny_pure ?_)))
          simp only [if_true]
          refine wp_if_neg (by simp [same]) (ih (c + (d + 1)) _ rfl (by omega) (by omega) fun i0 p0 h0 k0 => ?_)
          obtain ⟨c', q1, q2, q3⟩ := hre i0 p0 h0 k0
          refine ⟨c', ?_, q2, q3⟩
          rcases Nat.lt_trichotomy c' (c + d) with y | y | y
          · refine absurd ?_ (d4 (c' - c) i0 (by omega) (by rw [jc, show c + (c' - c) = c' by omega]; exact q3))
            show (es[i0]?.map (·.1)).getD 0 = _
            rw [key i0 p0 h0, k0]
          · rw [y] at q3
            have l0 := slot_live T.tbl.ris q3
            rw [live] at l0
            injection l0 with l0
            rw [← l0, hp] at h0
            cases h0
            exact absurd k0 same
          · omega
      by_cases ld : t.led = true
      · refine wp_if_neg (by simp [ld]) ?_
        try refine wpAny_bind (wpAny_pure ?_)
        exact tail
      · refine wp_if_pos (by simp [ld]) (wpAny_bind (seen_tup hx (fun y hy => ?_) ?_))
        · obtain ⟨e, he, rfl⟩ := List.mem_map.mp hy
          have he' : e ∈ es.toList := by
            have : e ∈ es ∧ e.1 = thash P w k := by simpa using he
            simpa using this.1
          rw [T.ent, rowsOf] at he'
          obtain ⟨p2, hp2, rfl⟩ := List.mem_map.mp he'
          exact ⟨p2.2, p2.1, rfl, T.tups p2 hp2⟩
        · refine wp_if_neg (by decide) ?_
          try refine wpAny_bind (wpAny_pure ?_)
          exact tail
    · have met : t.probe (fun i => (es[i]?.map (·.1)).getD 0) (thash P w k) (sd.getD (t.probeStart (thash P w k))) = some (.empty (stp t (thash P w k) z).j none) := by
        have e : (stp t (thash P w k) z).j = (nth t.mask (stp t (thash P w k) c) (z - c)).j := by rw [jc, show c + (z - c) = z by omega]
        rw [hsd, e]
        exact d5
      rw [met]
      refine wpAny_pure (no fun hm => ?_)
      obtain ⟨p0, m0, k0⟩ := List.mem_map.mp hm
      obtain ⟨i0, b0, e0⟩ := List.getElem_of_mem m0
      have h0 : L[i0]? = some p0 := by rw [List.getElem?_eq_getElem b0, e0]
      obtain ⟨c', q1, q2, q3⟩ := hre i0 p0 h0 k0
      refine absurd ?_ (d4 (c' - c) i0 (by omega) (by rw [jc, show c + (c' - c) = c' by omega]; exact q3))
      show (es[i0]?.map (·.1)).getD 0 = _
      rw [key i0 p0 h0, k0]
theorem tset_find (T : TSet P w s.heap a L es ep t) {x : Addr} {k : List Int} (hx : IsT P w s.heap k x) (hu : A.units < cLine) {Q : SetFound → Shared → Prop} (yes : k ∈ L.map (·.2) → Q (.there none) s)
    (no : ∀ z, k ∉ L.map (·.2) → way t.mask (thash P w k) z ∉ t.place.toList → (∀ c, c < z → way t.mask (thash P w k) c ∈ t.place.toList) → Q (.free (way t.mask (thash P w k) z) false) s) : wpAny (model P w) A (setSearch a (.ref x) (thash P w k) true) Q E s := by
  have sp := T.spare
  obtain ⟨z, zb, z0, z1⟩ := T.tbl.first (by rw [List.length_map]; omega) (thash P w k)
  have zs : z < 100000 := by
    have : SetTable.turns t.mask ≤ 1000 := by
      unfold SetTable.turns
      rcases T.msk with e | e | e | e <;> rw [e] <;> decide
    omega
  unfold setSearch
  refine tset_seek T hx hu zb z0 z1 yes (fun n => no z n z0 z1) 100000 0 none rfl (Nat.zero_le _) (by omega) fun i p hp hk => ?_
  have hi : i < t.place.toList.length := by
    rw [Array.length_toList, T.plc]
    exact (List.getElem?_eq_some_iff.mp hp).1
  have hh : (L.map fun p => thash P w p.2)[i]? = some (thash P w k) := by rw [List.getElem?_map, hp, ← hk]; rfl
  obtain ⟨c, c1, c2⟩ := T.tbl.before z0 hh (List.getElem?_eq_getElem hi)
  exact ⟨c, Nat.zero_le _, c1, by rw [List.getElem?_eq_getElem hi]; exact congrArg some c2.symm⟩
/-- the table is laid anew, larger -/
theorem tset_relay {o : Obj} (ho : s.heap.get? a = some o) (hex : o.ExactSet) (hd : o.data = .set es ep t) (he : es.toList = rowsOf P w L) (hs : t.place.size = es.size) (hdm : t.dummies = #[]) (hm : es.size ≤ t.mask) (on : (L.map (·.2)).Nodup) (tu : ∀ p ∈ L, IsT P w s.heap p.2 p.1) (pl : t.plain = true) (ld : w.params.followText "set-order" = true ∨ t.led = true)
    {wd M : Nat} (hw : SetTable.sizeAbove wd = M + 1) (hM : Full M) (hM2 : M = 7 ∨ M = 31 ∨ M = 127 ∨ M = 511) (sp : L.length * 5 < M * 3) {Q : Unit → Shared → Prop} (q : ∀ h' L' es' ep' t', Heap.SameBut a s.heap h' → TSet P w h' a L' es' ep' t' → L'.Perm L → Q () { s with heap := h' }) : wpAny (model P w) A (setRelay a wd) Q E s := by
  have hl := rowsOf_len he
  obtain ⟨t', od, e, pm, T, em, el, epl, edm⟩ := relaid_full t (hs := es.map (·.1)) (wanted := wd) (M := M) (by rw [hw]; rfl) hM (by rcases hM2 with e | e | e | e <;> rw [e]) (by rw [Array.size_map, hl]; omega)
  rw [Array.size_map, hl] at pm
  obtain ⟨L2, r1, r2, r3⟩ := order_rows L es od he pm
  rw [← r3] at T
  have n2 : (od.filterMap (es[·]?)).size = L.length := by rw [rowsOf_len r1, r2.length_eq]
  rw [setRelay_eq]
  refine wpAny_bind (wpAny_setState_of ho hd (fits_of hs hdm hm) ?_)
  dsimp only
  refine wp_if_neg (by rw [hw, sizeLine_eq]; omega) ?_
  try refine wpAny_bind (wpAny_pure ?_)
  rw [e]
  dsimp only
  refine wpAny_bind (wp_if_neg (by rw [n2, hl]; simp) ?_)
  try refine wpAny_bind (wpAny_pure ?_)
  refine wpAny_pure ?_
  dsimp only
  refine wpAny_storeSet_of ho hd ?_ (by rw [n2, sizeLine_eq]; omega)
  have sb : Heap.SameBut a s.heap (s.heap.update a (Obj.putSet (od.filterMap (es[·]?)) t')) := Heap.SameBut.update ..
  exact q _ L2 _ (ep + 1) t' sb { obj := ⟨_, store_at ho hd, ⟨hex.1, hex.2.1, hex.2.2⟩, rfl⟩, ent := r1, tbl := T, msk := by rw [em]; exact hM2, one := (r2.map (·.2)).nodup_iff.mpr on, tups := fun p hp => isT_same (tu p (r2.mem_iff.mp hp)) ho hd sb, pln := by rw [epl]; exact pl, way' := by rw [el]; exact ld, spare := by rw [r2.length_eq, em]; exact sp } r2
/-- one more -/
theorem tset_add (T : TSet P w s.heap a L es ep t) {x : Addr} {k : List Int} (hx : IsT P w s.heap k x) (hu : A.units < cLine) (few : k ∉ L.map (·.2) → L.length < 306) {Q : Bool → Shared → Prop}
    (q : ∀ c h' L' es' ep' t', Heap.SameBut a s.heap h' → TSet P w h' a L' es' ep' t' → (k ∈ L.map (·.2) → L' = L) → (k ∉ L.map (·.2) → L'.Perm ((x, k) :: L)) → Q c { s with heap := h' }) : wpAny (model P w) A (setAddHashed a (.ref x) (thash P w k)) Q E s := by
  obtain ⟨o, ho, hex, hd⟩ := T.obj
  have sp := T.spare
  unfold setAddHashed
  refine wpAny_holding ?_
  rw [show (100000 : Nat) = 99999 + 1 from rfl, setAddHashedIn_succ]
  refine wpAny_bind (wpAny_setState_of ho hd T.fit ?_)
  dsimp only
  refine wp_if_neg (by simp [byScan, Value.scannable]) ?_
  try refine wpAny_bind (wpAny_pure ?_)
  refine wpAny_bind (tset_find T hx hu (fun m => ?_) fun z m z0 z1 => ?_)
  · exact wpAny_pure (q false s.heap L es ep t (Heap.SameBut.refl a s.heap) T (fun _ => rfl) fun n => absurd m n)
  · dsimp only
    refine wpAny_bind (wpAny_setState_of ho hd T.fit ?_)
    dsimp only
    have lt := few m
    obtain ⟨q1, q2, q3, q4, q5, q6, q7, q8, q9⟩ := T.tbl.put z0 z1
    have pl1 : (t.put (way t.mask (thash P w k) z)).1.plain = true := by rw [q6]; exact T.pln
    generalize eput : t.put (way t.mask (thash P w k) z) = tp at q1 q3 q4 q5 q6 q7 q8 q9 pl1 ⊢
    obtain ⟨t1, pz⟩ := tp
    dsimp only at q1 q3 q4 q5 q6 q7 q8 q9 pl1 ⊢
    subst q1
    first
      | (refine wpAny_bind ?_; refine wp_if_pos pl1 ?_; refine hashBy_tup hx ?_)
      | refine wp_if_pos pl1 (wpAny_bind (hashBy_tup hx ?_))
    simp only [if_true]
    generalize ebel : SetTable.below t.place (way t.mask (thash P w k) z) = j at q2 q3 ⊢
    have pm : (L.take j ++ (x, k) :: L.drop j).Perm ((x, k) :: L) := put_perm L j (x, k)
    have en1 : (SetTable.insertAt es j (thash P w k, Value.ref x)).toList = rowsOf P w (L.take j ++ (x, k) :: L.drop j) := by rw [SetTable.toList_insertAt, rows_put, T.ent]
    have hh : (L.take j ++ (x, k) :: L.drop j).map (fun p => thash P w p.2) = (L.map fun p => thash P w p.2).take j ++ thash P w k :: (L.map fun p => thash P w p.2).drop j := by simp only [List.map_append, List.map_cons, List.map_take, List.map_drop]
    rw [← hh] at q3
    have ll : (L.take j ++ (x, k) :: L.drop j).length = L.length + 1 := by rw [pm.length_eq, List.length_cons]
    have on1 : ((L.take j ++ (x, k) :: L.drop j).map (·.2)).Nodup := (pm.map (·.2)).nodup_iff.mpr (List.nodup_cons.mpr ⟨m, T.one⟩)
    have ez := rowsOf_len en1
    rw [ll] at ez
    generalize SetTable.insertAt es j (thash P w k, Value.ref x) = es1 at en1 ez ⊢
    generalize L.take j ++ (x, k) :: L.drop j = L1 at pm en1 q3 ll on1
    refine wpAny_bind (wpAny_storeSet_of ho hd ?_ (by rw [ez, sizeLine_eq]; omega))
    have sb : Heap.SameBut a s.heap (s.heap.update a (Obj.putSet es1 t1)) := Heap.SameBut.update ..
    have ho1 := store_at (es' := es1) (t' := t1) ho hd
    generalize s.heap.update a (Obj.putSet es1 t1) = h1 at sb ho1 ⊢
    have tu1 : ∀ p ∈ L1, IsT P w h1 p.2 p.1 := fun p hp => by
      rcases List.mem_cons.mp (pm.mem_iff.mp hp) with rfl | hp
      · exact isT_same hx ho hd sb
      · exact isT_same (T.tups p hp) ho hd sb
    have wy1 : w.params.followText "set-order" = true ∨ t1.led = true := by rw [q5]; exact T.way'
    have fl : t1.tooFull = true ↔ (L.length + 1) * 5 ≥ t1.mask * 3 := by
      unfold SetTable.tooFull
      rw [decide_eq_true_eq, q9, List.length_map]
    by_cases hf : t1.tooFull = true
    · have full := fl.mp hf
      first
        | (refine wpAny_bind ?_; refine wp_if_pos (by simp [hf]) ?_)
        | (refine wp_if_pos (by simp [hf]) ?_; refine wpAny_bind ?_)
      rw [T.len]
      have ps1 : t1.place.size = es1.size := by
        have := q3.sz
        rw [List.length_map, ll] at this
        rw [this, ez]
      have on : ∀ M, SetTable.sizeAbove (SetTable.grown (L.length + 1)) = M + 1 → Full M → (M = 7 ∨ M = 31 ∨ M = 127 ∨ M = 511) → (L.length + 1) * 5 < M * 3 → es1.size ≤ t1.mask → wpAny (model P w) A (setRelay a (SetTable.grown (L.length + 1))) (fun _ s' => wpAny (model P w) A (pure true) Q E s') E { s with heap := h1 } := fun M u1 u2 u3 u4 u5 => tset_relay (s := { s with heap := h1 }) ho1 ⟨hex.1, hex.2.1, hex.2.2⟩ rfl en1 ps1 q3.dm u5 on1 tu1 pl1 wy1 u1 u2 u3 (by rw [ll]; exact u4) fun h2 L2 es2 ep2 t2 sb2 T2 pm2 => wpAny_pure (q true h2 L2 es2 ep2 t2 (sb.trans sb2) T2 (fun n => absurd n m) fun _ => pm2.trans pm)
      rcases T.msk with e | e | e | e
      · have n4 : L.length = 4 := by rw [q4, e] at full; rw [e] at sp; omega
        exact on 31 (by rw [n4, size_20]) (full_mask (.inr (.inl rfl))) (by decide) (by omega) (by rw [ez, q4, e]; omega)
      · have n18 : L.length = 18 := by rw [q4, e] at full; rw [e] at sp; omega
        exact on 127 (by rw [n18, size_76]) (full_mask (.inr (.inr rfl))) (by decide) (by omega) (by rw [ez, q4, e]; omega)
      · have n76 : L.length = 76 := by rw [q4, e] at full; rw [e] at sp; omega
        exact on 511 (by rw [n76, size_308]) full_511 (by decide) (by omega) (by rw [ez, q4, e]; omega)
      · rw [q4, e] at full; omega
    · first
        | refine wp_if_neg (by simp [hf]) ?_
        | (refine wpAny_bind ?_; refine wp_if_neg (by simp [hf]) ?_; refine wpAny_pure ?_)
      exact wpAny_pure (q true h1 L1 es1 (ep + 1) t1 sb { obj := ⟨_, ho1, ⟨hex.1, hex.2.1, hex.2.2⟩, rfl⟩, ent := en1, tbl := q3, msk := by rw [q4]; exact T.msk, one := on1, tups := tu1, pln := pl1, way' := wy1, spare := by rw [ll]; exact Nat.lt_of_not_ge fun z => hf (fl.mpr z) } (fun n => absurd n m) fun _ => pm)
end
end Fx
-- FsetC
namespace Fx
open PySem PySem.Spec PyProof.Rows L2
section
variable {P : Program} {w : World} {A : Around} {E : Value → Shared → Prop} {s : Shared}
theorem TSet.on {h h' : Heap} {a : Addr} {L : Rw} {es : Array (Int × Value)} {ep : Nat} {t : SetTable} (T : TSet P w h a L es ep t) (ha : ∀ o, h.get? a = some o → h'.get? a = some o) (ht : ∀ p ∈ L, IsT P w h' p.2 p.1) : TSet P w h' a L es ep t := by
  obtain ⟨o, ho, r⟩ := T.obj
  exact { obj := ⟨o, ha o ho, r⟩, ent := T.ent, tbl := T.tbl, msk := T.msk, one := T.one, tups := ht, pln := T.pln, way' := T.way', spare := T.spare }
theorem tset_new {h : Heap} {a : Addr} (ho : h.get? a = some (set00 w)) : TSet P w h a [] #[] 0 (.fresh 0 0 (!w.params.followText "set-order")) := by
  have r := setTR_fresh (P := P) (w := w) ho
  exact { obj := r.ob, ent := r.rows, tbl := .of r.tab, msk := by rcases r.tab.mok with e | e | e <;> rw [e] <;> decide, one := r.nd, tups := r.tup, pln := r.plain, way' := r.led, spare := r.room }
/-- the loop of set(..), over all that is walked -/
theorem tset_loop {I : Addr} {fp wr : List Addr} {G : Array GenState → Array GenState → Prop} {n : Nat} {Pv : Nat → Value → Prop} {St : Nat → Shared → Prop} {Rz : Result → Shared → Prop} (W : WalksS P w A.in1 I fp wr G n Pv St) (S : Addr) (hSf : S ∉ fp) (ks : Rw) (hn : n = ks.length) (hD : ∀ M : List (List Int), M.Nodup → (∀ x ∈ M, x ∈ ks.map (·.2)) → M.length ≤ 300)
    (hval : ∀ i v, Pv i v → ∃ p, ks[i]? = some p ∧ v = .ref p.1) (h0 : Heap) (hk : ∀ p ∈ ks, IsT P w h0 p.2 p.1) (hS0 : h0.get? S = none) (hw0 : ∀ c ∈ wr, h0.get? c = none) (hu : A.in1.units < cLine) :
    ∀ (d i : Nat) (s : Shared), n - i = d → i ≤ n → St i s → (∀ c o, h0.get? c = some o → s.heap.get? c = some o) → (∃ L es ep t, TSet P w s.heap S L es ep t ∧ Got ks i L) → (∀ s' L es ep t, Moved (S :: wr) G s s' → TSet P w s'.heap S L es ep t → Got ks n L → (∀ c o, h0.get? c = some o → s'.heap.get? c = some o) → Rz (.ok (.ret .none)) s') →
      codeAny (model P w) A (.builtin "set.update.loop" ⟨[.ref S, .ref I], []⟩) Rz s := by
  have nW : S ∉ wr := fun z => hSf (W.sub _ z)
  have more : ∀ c ∈ wr, c ∈ S :: wr := fun c hc => List.mem_cons_of_mem _ hc
  have kept : ∀ {u u' : Shared}, Moved wr G u u' → (∀ c o, h0.get? c = some o → u.heap.get? c = some o) → ∀ c o, h0.get? c = some o → u'.heap.get? c = some o := fun mv kp c o e => mv.heap c o (fun hc => by rw [hw0 c hc] at e; cases e) (kp c o e)
  intro d
  induction d with
  | zero =>
    intro i s hd hi st kp ⟨L, es, ep, t, T, g⟩ fin
    have e : i = n := by omega
    subst e
    refine codeAny_builtin F.entry_set_update_loop ?_
    rw [Around.under_plainId F.plain_set_update_loop _]
    show wpAny _ A.in1 (pyNext (.ref I) >>= _) _ _ s
    refine wpAny_bind (W.done s _ _ st fun s' mv => ?_)
    have kp' := kept mv kp
    exact wpAny_pure (fin s' L es ep t (mv.mono more) (T.on (fun o e => mv.heap S o nW e) fun p hp => isT_keep (hk p (List.mem_of_mem_take (g.sub p hp))) kp') g kp')
  | succ d ih =>
    intro i s hd hi st kp ⟨L, es, ep, t, T, g⟩ fin
    have lt : i < n := by omega
    refine codeAny_builtin F.entry_set_update_loop ?_
    rw [Around.under_plainId F.plain_set_update_loop _]
    show wpAny _ A.in1 (pyNext (.ref I) >>= _) _ _ s
    refine wpAny_bind (W.item i s _ _ lt st fun v s' hP st' mv => ?_)
    obtain ⟨p, hp, rfl⟩ := hval i v hP
    have kp' := kept mv kp
    have sub : ∀ q ∈ L, q ∈ ks := fun q hq => List.mem_of_mem_take (g.sub q hq)
    have T' : TSet P w s'.heap S L es ep t := T.on (fun o e => mv.heap S o nW e) fun q hq => isT_keep (hk q (sub q hq)) kp'
    have px : IsT P w s'.heap p.2 p.1 := isT_keep (hk p (List.mem_of_getElem? hp)) kp'
    show wpAny _ A.in1 (holding [Value.ref p.1] (setAdd S (.ref p.1)) >>= _) _ _ s'
    refine wpAny_bind (wpAny_holding ?_)
    unfold setAdd
    refine wpAny_holding (wpAny_bind (wpAny_pyHash_tuple hu px ?_))
    refine tset_add (s := { s' with toks := s'.toks + (p.2.length + 1) }) T' px hu (fun nm => ?_) fun c h' L' es' ep' t' sb T2 c1 c2 => ?_
    · have := hD (p.2 :: L.map (·.2)) (List.nodup_cons.mpr ⟨nm, T.one⟩) (fun x hx => by
        rcases List.mem_cons.mp hx with rfl | hx
        · exact List.mem_map.mpr ⟨p, List.mem_of_getElem? hp, rfl⟩
        · obtain ⟨q, hq, rfl⟩ := List.mem_map.mp hx
          exact List.mem_map.mpr ⟨q, sub q hq, rfl⟩)
      rw [List.length_cons, List.length_map] at this
      omega
    · have g' : Got ks (i + 1) L' := by
        by_cases m : p.2 ∈ L.map (·.2)
        · rw [c1 m]; exact g.same hp m
        · exact g.more hp (c2 m)
      have kp2 : ∀ c o, h0.get? c = some o → h'.get? c = some o := fun c o e => (sb.2 c (fun z => by rw [z, hS0] at e; cases e)).trans (kp' c o e)
      refine wpAny_pure ⟨plainId_quiet F.plain_set_update_loop _, ih (i + 1) _ (by omega) lt (W.frame _ s' _ _ st' (Nat.le_add_right _ _) fun c hc o e => ?_) kp2 ⟨L', es', ep', t', T2, g'⟩ fun s'' L2 es2 ep2 t2 mv2 T3 g3 kp3 => ?_⟩
      · rw [sb.2 c (fun z : c = S => hSf (z ▸ hc))]; exact e
      · refine fin s'' L2 es2 ep2 t2 (Moved.trans W.gtrans ((mv.mono more).then_heap (Nat.le_add_right _ _) fun c o hc e => ?_) mv2) T3 g3 kp3
        rw [sb.2 c (fun z : c = S => hc (z ▸ List.mem_cons_self))]; exact e
/-- set(xs), xs a list of tuples of ints -/
theorem set_of_tups {l : Addr} {items : Array Value} (ks : Rw) {Q : Value → Shared → Prop} (hh : A.handled = none) (hl : s.heap.IsList l items) (hit : items.toList = ks.map fun p => Value.ref p.1) (hk : ∀ p ∈ ks, IsT P w s.heap p.2 p.1) (hD : ∀ M : List (List Int), M.Nodup → (∀ x ∈ M, x ∈ ks.map (·.2)) → M.length ≤ 300) (hu : A.units + 3 < cLine)
    (h : ∀ (h' : Heap) (tk : Nat) L es ep t, TSet P w h' s.heap.objs.size L es ep t → Got ks ks.length L → (∀ b o, s.heap.get? b = some o → h'.get? b = some o) → Q (.ref s.heap.objs.size) { s with heap := h', toks := tk }) :
    wpAny (model P w) A (call (.type "set") [.ref l]) Q E s := by
  have hisz : items.size = ks.length := by
    rw [← Array.length_toList, hit, List.length_map]
  obtain ⟨c, tl, hmro⟩ := F.called_set.mro
  have hmade := F.called_set.made; have hsub := F.called_set.sub
  refine wpAny_call (codeAny_of_tree ?_)
  show wpAny _ _ (callAny (.type "set") _) _ _ _
  refine wpAny_pure ⟨Code.quiet_builtin _ (by decide +kernel), codeAny_builtin F.entry_type_call ?_⟩
  rw [Around.under_plain (weight_type_call_type "set" [.ref l] []) rfl]
  have h1 := F.called_set.notType; have h2 := F.called_set.canCreate; have hct := F.typeCall_set_1 (.ref l)
  repeat (any_goals (first | assumption | wp_step))
  refine codeAny_mono (code_set_led1 (.ref l) (E := E) (Q₁ := fun obj s₁ => obj = .ref s.heap.objs.size ∧ s₁ = { s with heap := s.heap.push (set00 w) }) ⟨rfl, rfl⟩) fun r s₁ hr => ?_
  cases r with
  | error e => exact hr
  | ok fl =>
    cases fl with
    | ret obj =>
      obtain ⟨rfl, rfl⟩ := hr
      have hS : (s.heap.push (set00 w)).get? s.heap.objs.size = some (set00 w) := Heap.get?_push_size _ rfl
      have hT : Shared.TypeIs { s with heap := s.heap.push (set00 w) } (.ref s.heap.objs.size) "set" := ⟨_, hS, rfl⟩
      have hli := F.called_set.init.lookup; have hbi := F.called_set.init.bind (.ref s.heap.objs.size)
      repeat (any_goals (first | assumption | wp_step))
      refine codeAny_mono (codeAny_call_builtin (R := wants (fun r s₂ => r = .none ∧ ∃ h' tk L es ep t, s₂ = { s with heap := h', toks := tk } ∧ TSet P w h' s.heap.objs.size L es ep t ∧ Got ks ks.length L ∧ (∀ b o, s.heap.get? b = some o → h'.get? b = some o)) E) F.called_set.init.plain F.entry_set_init (check_set_init_1 hT ?_)) fun r₂ s₂ hr₂ => ?_
      · obtain ⟨ol, hol, hcl, nl, hdl⟩ := hl
        obtain ⟨ocls, odict, odata, oslots⟩ := ol
        simp only at hcl hdl
        subst hcl; subst hdl
        have hol' : (s.heap.push (set00 w)).get? l = some { cls := .type "list", dict := odict, data := .seq items nl, slots := oslots } := Heap.get?_push_of_some _ hol
        have hsls := F.sub_list_set
        have hslf := F.sub_list_frozenset
        have hne : (Value.type "list" == Value.type "dict") = false := by decide
        have hl1 : (s.heap.push (set00 w)).IsList l items := ⟨_, hol', rfl, nl, rfl⟩
        unfold Builtin.«set.__init__» noKeywords Builtin.Frozenset.updateFrom
        generalize hPI : pyIter = PI
        wp_walk
        subst hPI
        refine wpAny_pyIter_list hl1 ?_
        refine wpAny_bind (wpAny_runValue ?_)
        have hlS : l < s.heap.objs.size := Heap.lt_size hol
        have hh3 : A.in1.in1.in1.handled = none := by simp [hh]
        have hneI : l ≠ (s.heap.push (set00 w)).objs.size := by rw [Heap.size_push]; exact Nat.ne_of_lt (Nat.lt_succ_of_lt hlS)
        have hSf : s.heap.objs.size ∉ [(s.heap.push (set00 w)).objs.size, l] := by
          rw [Heap.size_push]; simp only [List.mem_cons, List.mem_singleton, List.not_mem_nil, or_false, not_or]; exact ⟨Nat.ne_of_lt (Nat.lt_succ_self _), Nat.ne_of_gt hlS⟩
        have hval : ∀ (i : Nat) (v : Value), items[i]? = some v → ∃ p, ks[i]? = some p ∧ v = .ref p.1 := fun i v hv => by
          have q : (ks.map fun p => Value.ref p.1)[i]? = some v := by rw [← hit, Array.getElem?_toList]; exact hv
          rw [List.getElem?_map] at q
          obtain ⟨p, e1, e2⟩ := Option.map_eq_some_iff.mp q
          exact ⟨p, e1, e2.symm⟩
        have past : ∀ b, s.heap.objs.size ≤ b → s.heap.get? b = none := fun b hb => by
          cases q : s.heap.get? b with
          | none => rfl
          | some o => exact absurd (Heap.lt_size q) (Nat.not_lt.mpr hb)
        refine tset_loop ((Walks.list hh3 _ l hneI items).toS) s.heap.objs.size hSf ks hisz hD hval s.heap hk (past _ (Nat.le_refl _)) (fun b hb => past b (by rw [List.mem_singleton.mp hb, Heap.size_push]; exact Nat.le_succ _)) hu (items.size - 0) 0 _ (by omega) (Nat.zero_le _) ⟨⟨_, Heap.get?_push_size _ rfl, rfl, rfl⟩, (hl1.push _)⟩ (fun b o e => Heap.get?_push_of_some _ (Heap.get?_push_of_some _ e)) ?hS0 ?hR
        case hS0 => exact ⟨[], #[], 0, _, tset_new (Heap.get?_push_of_some _ hS), Got.zero ks⟩
        case hR =>
          intro s' L es ep t hm T g kp
          obtain ⟨h', g2, d', tk', os'⟩ := s'
          have eg : g2 = s.gens := hm.gens
          have ed : d' = s.drawn := hm.drawn
          have eo : os' = s.os := hm.os
          subst eg; subst ed; subst eo
          show wpAny _ _ _ _ _ _
          refine wpAny_pure ?_
          show wpAny _ _ (ret Value.none) _ _ _
          rw [hisz] at g
          exact wpAny_pure ⟨rfl, h', tk', L, es, ep, t, rfl, T, g, kp⟩
      · cases r₂ with
        | error e => exact hr₂
        | ok fl₂ =>
          cases fl₂ with
          | ret r =>
            obtain ⟨rfl, h', tk, L, es, ep, t, rfl, T, g, hk'⟩ := hr₂
            repeat (any_goals (first | assumption | wp_step))
            exact h _ _ _ _ _ _ T g hk'
          | _ => exact hr₂.elim
    | _ => exact hr.elim
end
end Fx
-- Fset2
namespace Fx
open PySem PySem.Spec PyProof.Rows L2
/-! ### sorted(set(xs)): ints, tuples of ints -/
section
variable {α : Type} [DecidableEq α]
def dd : List α → List α
  | [] => []
  | a :: r => if a ∈ r then dd r else a :: dd r
theorem mem_dd {x : α} : ∀ {xs : List α}, x ∈ dd xs ↔ x ∈ xs
  | [] => Iff.rfl
  | a :: r => by
    unfold dd
    by_cases h : a ∈ r
    · rw [if_pos h, mem_dd, List.mem_cons]
      exact ⟨.inr, fun z => z.elim (fun e => by rw [e]; exact h) id⟩
    · rw [if_neg h, List.mem_cons, List.mem_cons, mem_dd]
theorem nodup_dd : ∀ xs : List α, (dd xs).Nodup
  | [] => List.nodup_nil
  | a :: r => by
    unfold dd
    by_cases h : a ∈ r
    · rw [if_pos h]; exact nodup_dd r
    · rw [if_neg h]; exact List.nodup_cons.mpr ⟨fun z => h (mem_dd.mp z), nodup_dd r⟩
/-- insertion -/
def ins (le : α → α → Bool) (a : α) : List α → List α
  | [] => [a]
  | b :: r => if le a b = true then a :: b :: r else b :: ins le a r
def isort (le : α → α → Bool) : List α → List α
  | [] => []
  | a :: r => ins le a (isort le r)
omit [DecidableEq α] in
theorem ins_perm (le : α → α → Bool) (a : α) : ∀ xs : List α, (ins le a xs).Perm (a :: xs)
  | [] => List.Perm.refl _
  | b :: r => by
    unfold ins
    split
    · exact List.Perm.refl _
    · exact ((ins_perm le a r).cons b).trans (List.Perm.swap a b r)
omit [DecidableEq α] in
theorem isort_perm (le : α → α → Bool) : ∀ xs : List α, (isort le xs).Perm xs
  | [] => List.Perm.refl _
  | a :: r => (ins_perm le a _).trans ((isort_perm le r).cons a)
omit [DecidableEq α] in
theorem ins_pw {le : α → α → Bool} (tr : ∀ a b c, le a b = true → le b c = true → le a c = true) (tot : ∀ a b, (le a b || le b a) = true) (a : α) : ∀ {xs : List α}, xs.Pairwise (fun x y => le x y = true) → (ins le a xs).Pairwise fun x y => le x y = true
  | [], _ => List.pairwise_singleton _ _
  | b :: r, h => by
    obtain ⟨h1, h2⟩ := List.pairwise_cons.mp h
    unfold ins
    split
    · rename_i e
      refine List.pairwise_cons.mpr ⟨fun x hx => ?_, h⟩
      rcases List.mem_cons.mp hx with rfl | hx
      · exact e
      · exact tr _ _ _ e (h1 x hx)
    · rename_i e
      refine List.pairwise_cons.mpr ⟨fun x hx => ?_, ins_pw tr tot a h2⟩
      rcases List.mem_cons.mp ((ins_perm le a r).mem_iff.mp hx) with rfl | hx
      · have q := tot x b
        rw [Bool.or_eq_true] at q
        exact q.resolve_left e
      · exact h1 x hx
omit [DecidableEq α] in
theorem isort_pw {le : α → α → Bool} (tr : ∀ a b c, le a b = true → le b c = true → le a c = true) (tot : ∀ a b, (le a b || le b a) = true) : ∀ xs : List α, (isort le xs).Pairwise fun x y => le x y = true
  | [] => List.Pairwise.nil
  | a :: r => ins_pw tr tot a (isort_pw tr tot r)
/-- two sorts of the same members -/
theorem sort_same {le : α → α → Bool} (tr : ∀ a b c, le a b = true → le b c = true → le a c = true) (tot : ∀ a b, (le a b || le b a) = true) (anti : ∀ a b, le a b = true → le b a = true → a = b) {xs ys : List α} (nd : xs.Nodup) (hm : ∀ x, x ∈ xs ↔ x ∈ ys) : xs.mergeSort le = isort le (dd ys) := by
  have p : xs.Perm (dd ys) := (List.perm_ext_iff_of_nodup nd (nodup_dd ys)).mpr fun x => by rw [mem_dd]; exact hm x
  refine List.Perm.eq_of_pairwise (le := fun a b => le a b = true) (fun a b _ _ h1 h2 => anti a b h1 h2) (List.pairwise_mergeSort tr tot xs) (isort_pw tr tot _) ?_
  exact (List.mergeSort_perm xs le).trans (p.trans (isort_perm le _).symm)
end
def leI (a b : Int) : Bool := decide (a ≤ b)
def leR : List Int → List Int → Bool
  | [], _ => true
  | _ :: _, [] => false
  | x :: xs, y :: ys => if x = y then leR xs ys else decide (x < y)
theorem leR_le : ∀ xs ys : List Int, leR xs ys = decide (xs ≤ ys)
  | [], ys => by simp [leR]
  | x :: xs, [] => by simp [leR]
  | x :: xs, y :: ys => by
    unfold leR
    rw [leR_le xs ys]
    by_cases h : x = y
    · rw [if_pos h]; subst h
      simp [List.cons_le_cons_iff]
    · rw [if_neg h]
      simp [List.cons_le_cons_iff, h]
def sortI (ns : List Int) : List Int := isort leI (dd ns)
def sortR (rs : List (List Int)) : List (List Int) := isort leR (dd rs)
theorem leI_tr (a b c : Int) (h1 : leI a b = true) (h2 : leI b c = true) : leI a c = true := by unfold leI at *; simp at *; omega
theorem leI_tot (a b : Int) : (leI a b || leI b a) = true := by unfold leI; simp; omega
theorem leI_anti (a b : Int) (h1 : leI a b = true) (h2 : leI b a = true) : a = b := by unfold leI at *; simp at *; omega
theorem leR_tr (a b c : List Int) (h1 : leR a b = true) (h2 : leR b c = true) : leR a c = true := by
  rw [leR_le, decide_eq_true_eq] at *
  exact List.le_trans h1 h2
theorem leR_tot (a b : List Int) : (leR a b || leR b a) = true := by
  rw [leR_le, leR_le, Bool.or_eq_true, decide_eq_true_eq, decide_eq_true_eq]
  exact List.le_total a b
theorem leR_anti (a b : List Int) (h1 : leR a b = true) (h2 : leR b a = true) : a = b := by
  rw [leR_le, decide_eq_true_eq] at *
  exact List.le_antisymm h1 h2
/-! the model's sets -/
def encI : Value → PyData
  | .int n _ => .int n
  | _ => .int 0
def numI : Value → Int
  | .int n _ => n
  | _ => 0
theorem encI_num (v : Value) : encI v = .int (numI v) := by cases v <;> rfl
theorem leI_enc (u v : Value) : PySem.W.dataLe false encI u v = leI (numI u) (numI v) := by
  have e : encI = fun v => .int (numI v) := funext encI_num
  rw [e, PySem.W.dataLe_int numI]
  rfl
section
variable {X : Cx} {pins : List (Addr × Obj)} {σ : L2.St} {H : Hp} {s : Shared}
theorem vals_nums : ∀ {out : List Value}, (∀ v ∈ out, ∃ k t, v = Value.int k t) → Vals ((out.map numI).map V.int) out
  | [], _ => .nil
  | v :: out, h => by
    obtain ⟨k, t, rfl⟩ := h v List.mem_cons_self
    exact .cons ⟨t, rfl⟩ (vals_nums fun u hu => h u (List.mem_cons_of_mem _ hu))
theorem sorted_setI {l : Addr} {ns : List Int} {Q : VK} (hc : X.calm = true) (hu : X.A.units + 64 < cLine) (I : Inv X pins σ H s) (hq : SqL X.K H l (ns.map V.int)) (hn : ns.length ≤ 4000) (q : ∀ p, H p = none → Q (.ref p) (upd H p (.lst ((sortI ns).map V.int)))) :
    wpAny (model X.prog X.w) X.A (call (.type "set") [.ref l]) (fun v s1 => wpAny (model X.prog X.w) X.A (call (.builtin "sorted") [v]) (EP X pins σ Q) X.xe s1) X.xe s := by
  obtain ⟨its, r, pl, hz⟩ := I.list hq
  refine set_of_ints ns (I.ok.hd hc) pl.isList (by simpa using r.ints) (by unfold scanBound; omega) fun h' tk c hS hcn hk => ?_
  have I1 : Inv X pins σ H { s with heap := h', toks := tk } := I.kept hk
  obtain ⟨o, es, ep, t, ho, hex, hd, g, nd, hm, hb, hf, hn', hr, hl⟩ := hS
  have good : ∀ v ∈ es.toList.map (·.2), ∃ k t, v = Value.int k t := fun v hv => by
    obtain ⟨e, he, rfl⟩ := List.mem_map.mp hv
    obtain ⟨k, tk, h1, _⟩ := g e he
    exact ⟨k, tk, h1⟩
  refine sorted_of_set (enc := encI) (I.ok.hd hc) ⟨o, ho, hex.1, hd⟩ hf hb hr hl (fun v hv => ?_) (fun v v' => ?_) (.inr fun v => ?_) (fun v => ?_) fun s' p vs out cc k2 g2 o2 hp hg pm eo => ?_
  · obtain ⟨k, t, rfl⟩ := good v hv
    exact ⟨[], .int k t⟩
  · rw [encI_num, encI_num]; simp [PySem.W.alike]
  · rw [encI_num]; exact ⟨fun z => (nomatch z), fun xs z => (nomatch z)⟩
  · rw [encI_num]; simp [PyData.depth]; omega
  · have gv : ∀ v ∈ vs, ∃ k t, v = Value.int k t := fun v hv => good v (pm.mem_iff.mp hv)
    have go : ∀ v ∈ out, ∃ k t, v = Value.int k t := fun v hv => by rw [eo] at hv; exact gv v (List.mem_mergeSort.mp hv)
    have ek : (es.toList.map (·.2)).map numI = es.toList.map L2.keyOf := by
      rw [List.map_map]
      refine List.map_congr_left fun e he => ?_
      obtain ⟨k, tk, h1, _⟩ := g e he
      show numI e.2 = L2.keyOf e
      unfold L2.keyOf
      rw [h1]
      rfl
    have en : out.map numI = sortI ns := by
      rw [eo, PySem.W.sort_maps numI (fun a _ b _ => leI_enc a b)]
      have pn : (vs.map numI).Perm (es.toList.map L2.keyOf) := by rw [← ek]; exact pm.map numI
      refine sort_same leI_tr leI_tot leI_anti (pn.nodup_iff.mpr nd) fun x => ?_
      rw [pn.mem_iff, ← hm x, decide_eq_true_eq]
    have hn : H p = none := I1.hok.fresh hp
    have vo := vals_nums go
    rw [en] at vo
    have hlen : ((sortI ns).map V.int).length ≤ sizeLine := by rw [vo.length, eo, List.length_mergeSort, pm.length_eq, List.length_map, Array.length_toList, sizeLine_eq]; unfold scanBound at hb; omega
    have J : Inv X pins σ (upd H p (.lst ((sortI ns).map V.int))) { ({ s with heap := h', toks := tk } : Shared) with heap := s'.heap, gens := s'.gens, drawn := s'.drawn, toks := s'.toks } :=
      I1.call (ch := []) (Un.laid k2 hp hn) (I1.hok.laid k2 hp ⟨hlen, out, cc, vo, hg⟩) (by rw [g2]; exact I1.bare) (fun _ z => nomatch z)
    have e : s' = { s with heap := s'.heap, gens := s'.gens, drawn := s'.drawn, toks := s'.toks } := by
      cases s'; cases s; cases o2; rfl
    rw [e]
    exact ⟨.ref p, _, J, rfl, q p hn⟩
/-! tuples -/
def rowA (L : List (Addr × List Int)) (a : Addr) : List Int := match L with
  | [] => [0]
  | p :: r => if p.1 = a then p.2 else rowA r a
def tupR : List Int → PyData
  | [] => .tuple [.int 0]
  | x :: r => .tuple ((x :: r).map .int)
def rowV (L : List (Addr × List Int)) : Value → List Int
  | .ref a => rowA L a
  | _ => [0]
def encT (L : List (Addr × List Int)) (v : Value) : PyData := tupR (rowV L v)
theorem rowA_ne {L : List (Addr × List Int)} (h : ∀ p ∈ L, p.2 ≠ []) (a : Addr) : rowA L a ≠ [] := by
  induction L with
  | nil => exact fun z => nomatch z
  | cons p r ih =>
    unfold rowA
    split
    · exact h p List.mem_cons_self
    · exact ih fun q hq => h q (List.mem_cons_of_mem _ hq)
theorem rowV_ne {L : List (Addr × List Int)} (h : ∀ p ∈ L, p.2 ≠ []) (v : Value) : rowV L v ≠ [] := by
  cases v <;> first | exact rowA_ne h _ | exact fun z => nomatch z
theorem tupR_ne {r : List Int} (h : r ≠ []) : tupR r = .tuple (r.map .int) := by
  cases r with
  | nil => exact absurd rfl h
  | cons _ _ => rfl
theorem rowA_mem {L : List (Addr × List Int)} (one : ∀ q ∈ L, ∀ r ∈ L, q.1 = r.1 → q = r) {p : Addr × List Int} (hp : p ∈ L) : rowA L p.1 = p.2 := by
  induction L with
  | nil => cases hp
  | cons q r ih =>
    unfold rowA
    split
    · rename_i e
      rw [one q List.mem_cons_self p hp e]
    · rename_i e
      rcases List.mem_cons.mp hp with rfl | hp
      · exact absurd rfl e
      · exact ih (fun a ha b hb => one a (List.mem_cons_of_mem _ ha) b (List.mem_cons_of_mem _ hb)) hp
theorem leT_enc {L : List (Addr × List Int)} (h : ∀ p ∈ L, p.2 ≠ []) (u v : Value) : PySem.W.dataLe false (encT L) u v = leR (rowV L u) (rowV L v) := by
  show (!PySem.W.dataLt (encT L v) (encT L u)) = _
  unfold encT
  rw [tupR_ne (rowV_ne h u), tupR_ne (rowV_ne h v), PySem.W.dataLt_tuple, leR_le]
  show (!PySem.W.rowLt ((rowV L v).map .int) ((rowV L u).map .int)) = _
  rw [PySem.W.dataLt_ints]
  by_cases q : rowV L v < rowV L u
  · have h' : ¬ rowV L u ≤ rowV L v := fun r => List.not_lt.mpr r q
    simp [q, h']
  · have h' : rowV L u ≤ rowV L v := List.not_lt.mp q
    simp [q, h']
theorem intKind_val {n : Int} {v : Value} (h : (PySem.intKind X.prog X.w).is n v = true) : ∃ t, v = Value.int n t := Value.isInt_shape h
theorem reads_ints {h : Heap} : ∀ {k : List Int} {us : List Value}, ItemsAre (intKind X.prog X.w) k us → ∃ as, ReadsAll h us (k.map PyData.int) as
  | [], _, .nil => ⟨[], .nil⟩
  | n :: k, _, .cons r t => by
    obtain ⟨as, q⟩ := reads_ints (h := h) t
    exact ⟨_, .cons ((let ⟨tt, ee⟩ := intKind_val r; by rw [ee]; exact .int n tt)) q⟩
theorem sorted_setT' {l : Addr} {ks : List (Addr × List Int)} {Q : VK} (hc : X.calm = true) (hu : X.A.units + 64 < cLine) (I : Inv X pins σ H s) (hq : SqL X.K H l (ks.map fun p => V.ref p.1)) (hk : ∀ p ∈ ks, SqT X.K H p.1 (p.2.map V.int)) (hne : ∀ p ∈ ks, p.2 ≠ []) (hn : ks.length ≤ 4000) (hdd : (dd (ks.map (·.2))).length ≤ 300)
    (q : ∀ p (L : List (Addr × List Int)), H p = none → (∀ x ∈ L, x ∈ ks) → L.map (·.2) = sortR (ks.map (·.2)) → Q (.ref p) (upd H p (.lst (L.map fun x => V.ref x.1)))) :
    wpAny (model X.prog X.w) X.A (call (.type "set") [.ref l]) (fun v s1 => wpAny (model X.prog X.w) X.A (call (.builtin "sorted") [v]) (EP X pins σ Q) X.xe s1) X.xe s := by
  obtain ⟨its, r, pl, hz⟩ := I.list hq
  refine set_of_tups (P := X.prog) (w := X.w) ks (I.ok.hd hc) pl.isList (by simpa using refs_of_vals r) (fun p hp => I.isT (hk p hp)) (fun M nd sub => Nat.le_trans (nd_len nd fun x hx => mem_dd.mpr (sub x hx)) hdd) (by omega) fun h' tk L es ep t R g kp => ?_
  have I1 : Inv X pins σ H { s with heap := h', toks := tk } := I.kept kp
  obtain ⟨o, ho, hex, hd⟩ := R.obj
  have hsz := TSet.len (s := { s with heap := h', toks := tk }) R
  have hfew : L.length < 307 := by
    have := R.spare
    rcases R.msk with e | e | e | e <;> omega
  have hes : es.toList.map (·.2) = L.map fun q => Value.ref q.1 := by
    rw [R.ent]
    unfold rowsOf
    rw [List.map_map] <;> rfl
  have one : ∀ q ∈ L, ∀ r ∈ L, q.1 = r.1 → q = r := fun q hq r hr e => by
    have a1 := R.tups q hq
    have a2 := R.tups r hr
    rw [e] at a1
    exact Prod.ext e (a1.inj a2)
  have sub : ∀ x ∈ L, x ∈ ks := fun x hx => List.mem_of_mem_take (g.sub x hx)
  have ne : ∀ p ∈ L, p.2 ≠ [] := fun p hp => hne p (sub p hp)
  refine sorted_of_set (enc := encT L) (I.ok.hd hc) ⟨o, ho, hex.1, hd⟩ (TSet.fit (s := { s with heap := h', toks := tk }) R) (by rw [hsz]; unfold scanBound; omega) R.tbl.ris R.way' (fun v hv => ?_) (fun v v' => ?_) (.inl fun v => ?_) (fun v => ?_) fun s' p vs out cc k2 g2 o2 hp hg pm eo => ?_
  · rw [hes] at hv
    obtain ⟨x, hx, rfl⟩ := List.mem_map.mp hv
    obtain ⟨ob, items, n, h1, h2, h3, h4⟩ := R.tups x hx
    obtain ⟨as, rd⟩ := reads_ints (X := X) (h := h') h4
    refine ⟨as, ?_⟩
    show Reads h' (.ref x.1) (tupR (rowA L x.1)) as
    rw [rowA_mem one hx, tupR_ne (ne x hx)]
    exact .tuple h1 h2 h3 rd
  · unfold encT
    rw [tupR_ne (rowV_ne ne v), tupR_ne (rowV_ne ne v')]
    simp only [PySem.W.alike]
    exact PySem.W.alike_ints _ _
  · unfold encT
    cases e : rowV L v with
    | nil => exact absurd e (rowV_ne ne v)
    | cons x r => exact ⟨.int x, r.map .int, rfl⟩
  · unfold encT
    rw [tupR_ne (rowV_ne ne v), PyData.depth, PySem.W.depth_ints]
    omega
  · have mv : ∀ v ∈ vs, ∃ x ∈ L, v = Value.ref x.1 := fun v hv => by
      have := pm.mem_iff.mp hv
      rw [hes] at this
      obtain ⟨x, hx, rfl⟩ := List.mem_map.mp this
      exact ⟨x, hx, rfl⟩
    have mo : ∀ v ∈ out, ∃ x ∈ L, v = Value.ref x.1 := fun v hv => by rw [eo] at hv; exact mv v (List.mem_mergeSort.mp hv)
    have back : ∀ us : List Value, (∀ v ∈ us, ∃ x ∈ L, v = Value.ref x.1) → ∃ L1 : List (Addr × List Int), us = L1.map (fun x => Value.ref x.1) ∧ (∀ x ∈ L1, x ∈ L) ∧ L1.map (·.2) = us.map (rowV L) := by
      intro us
      induction us with
      | nil => exact fun _ => ⟨[], rfl, fun x hx => (nomatch hx), rfl⟩
      | cons v us ih =>
        intro hv
        obtain ⟨x, hx, e⟩ := hv v List.mem_cons_self
        obtain ⟨L1, e1, hs, e2⟩ := ih fun u hu => hv u (List.mem_cons_of_mem _ hu)
        refine ⟨x :: L1, by rw [List.map_cons, e, e1], fun y hy => ?_, ?_⟩
        · rcases List.mem_cons.mp hy with z | z
          · rw [z]; exact hx
          · exact hs y z
        · rw [List.map_cons, List.map_cons, e2, e]
          show _ :: _ = rowA L x.1 :: _
          rw [rowA_mem one hx]
    obtain ⟨L1, e1, hs1, e2⟩ := back out mo
    have ev : (es.toList.map (·.2)).map (rowV L) = L.map (·.2) := by
      rw [hes, List.map_map]
      refine List.map_congr_left fun x hx => ?_
      exact rowA_mem one hx
    have pn : (vs.map (rowV L)).Perm (L.map (·.2)) := by rw [← ev]; exact pm.map _
    have en : L1.map (·.2) = sortR (ks.map (·.2)) := by
      rw [e2, eo, PySem.W.sort_maps (rowV L) (fun a _ b _ => leT_enc ne a b)]
      refine sort_same leR_tr leR_tot leR_anti (pn.nodup_iff.mpr R.one) fun x => ?_
      rw [pn.mem_iff]
      constructor
      · intro hx
        obtain ⟨y, hy, rfl⟩ := List.mem_map.mp hx
        exact List.mem_map.mpr ⟨y, sub y hy, rfl⟩
      · intro hx
        obtain ⟨y, hy, rfl⟩ := List.mem_map.mp hx
        exact g.all y (by rw [List.take_length]; exact hy)
    have hnp : H p = none := I1.hok.fresh hp
    have vo : Vals (L1.map fun x => V.ref x.1) out := by
      rw [e1]
      exact vals_of_refs L1
    have hlen : (L1.map fun x => V.ref x.1).length ≤ sizeLine := by
      have z : out.length = L.length := by rw [eo, List.length_mergeSort, pm.length_eq, hes, List.length_map]
      rw [vo.length, z, sizeLine_eq]; omega
    have J : Inv X pins σ (upd H p (.lst (L1.map fun x => V.ref x.1))) { ({ s with heap := h', toks := tk } : Shared) with heap := s'.heap, gens := s'.gens, drawn := s'.drawn, toks := s'.toks } :=
      I1.call (ch := []) (Un.laid k2 hp hnp) (I1.hok.laid k2 hp ⟨hlen, out, cc, vo, hg⟩) (by rw [g2]; exact I1.bare) (fun _ z => nomatch z)
    have e : s' = { s with heap := s'.heap, gens := s'.gens, drawn := s'.drawn, toks := s'.toks } := by
      cases s'; cases s; cases o2; rfl
    rw [e]
    exact ⟨.ref p, _, J, rfl, q p L1 hnp (fun x hx => sub x (hs1 x hx)) en⟩
end
/-! ### the expression -/
def rowsI : List D → Option (List Int)
  | [] => some []
  | .int n :: r => (rowsI r).map fun ns => n :: ns
  | _ => none
def rowsT : List D → Option (List (List Int))
  | [] => some []
  | .tuple (x :: r) :: t => (rowsI (x :: r)).bind fun k => (rowsT t).map fun ks => k :: ks
  | _ => none
def tupI (r : List Int) : D := .tuple (r.map .int)
def sortSetD : D → Option D
  | .list ds => match rowsI ds with
    | some ns => if ns.length ≤ 4000 then some (.list ((sortI ns).map .int)) else none
    | none => match rowsT ds with
      | some rs => if rs.length ≤ 4000 ∧ (dd rs).length ≤ 300 then some (.list ((sortR rs).map tupI)) else none
      | none => none
  | _ => none
section
variable {E : Ev} {A : Addr → Prop} {H : Hp}
theorem Reps.rowsI : ∀ {xs : List V} {ds : List D} {ns : List Int}, Reps E A H xs ds → Fx.rowsI ds = some ns → xs = ns.map V.int ∧ ds = ns.map PyData.int
  | _, _, _, .nil, h => by cases h; exact ⟨rfl, rfl⟩
  | _, _, _, .cons r t, h => by
    cases r <;> simp only [Fx.rowsI] at h
    all_goals first | (cases h; done) | skip
    simp only [Option.map_eq_some_iff] at h
    obtain ⟨ns, h1, rfl⟩ := h
    obtain ⟨e1, e2⟩ := Reps.rowsI t h1
    subst e1 e2
    exact ⟨rfl, rfl⟩
theorem Reps.rowsT : ∀ {xs : List V} {ds : List D} {ks : List (List Int)}, Reps E A H xs ds → Fx.rowsT ds = some ks → ∃ L : List (Addr × List Int), xs = L.map (fun p => V.ref p.1) ∧ L.map (·.2) = ks ∧ ∀ p ∈ L, ¬ A p.1 ∧ H p.1 = some (.tup (p.2.map V.int)) ∧ p.2 ≠ []
  | _, _, _, .nil, h => by cases h; exact ⟨[], rfl, rfl, fun p hp => (nomatch hp)⟩
  | _, _, ks, .cons r t, h => by
    cases r with
    | non => cases h
    | bl b => cases h
    | int i => cases h
    | str x => cases h
    | lst _ _ _ => cases h
    | dt _ _ _ => cases h
    | dk _ _ _ _ => cases h
    | dx _ _ _ _ => cases h
    | @tup a vs ds e rs =>
     cases ds with
     | nil => cases h
     | cons d0 dr =>
      simp only [Fx.rowsT, Option.bind_eq_some_iff, Option.map_eq_some_iff] at h
      obtain ⟨k, h1, ks', h2, rfl⟩ := h
      obtain ⟨L, e1, e2, e3⟩ := Reps.rowsT t h2
      obtain ⟨e4, e5⟩ := rs.rowsI h1
      have hk : k ≠ [] := fun z => by rw [z] at e5; cases e5
      refine ⟨(a, k) :: L, by rw [List.map_cons, e1], by rw [List.map_cons, e2], fun p hp => ?_⟩
      rcases List.mem_cons.mp hp with rfl | hp
      · rcases e with ⟨n, e⟩ | ⟨e, _⟩
        · rw [e4] at e; exact ⟨n, e, hk⟩
        · rw [e] at rs; cases rs
      · exact e3 p hp
theorem reps_ints : ∀ ns : List Int, Reps E A H (ns.map V.int) (ns.map PyData.int)
  | [] => .nil
  | n :: ns => .cons (.int n) (reps_ints ns)
theorem reps_rows : ∀ {L : List (Addr × List Int)}, (∀ p ∈ L, ¬ A p.1 ∧ H p.1 = some (.tup (p.2.map V.int))) → Reps E A H (L.map fun p => V.ref p.1) ((L.map (·.2)).map tupI)
  | [], _ => .nil
  | p :: L, h => .cons (.tup (.inl (h p List.mem_cons_self)) (reps_ints p.2)) (reps_rows fun q hq => h q (List.mem_cons_of_mem _ hq))
end
def tSortSet (K : PySem.W.Frag) (ta : TE) : TE := fun σ H Q => ta σ H fun x H1 => (∃ (l : Addr) (ns : List Int), x = .ref l ∧ SqL K H1 l (ns.map V.int) ∧ ns.length ≤ 4000 ∧ ∀ p, H1 p = none → Q (.ref p) (upd H1 p (.lst ((sortI ns).map V.int)))) ∨
  (∃ (l : Addr) (ks : List (Addr × List Int)), x = .ref l ∧ SqL K H1 l (ks.map fun p => V.ref p.1) ∧ (∀ p ∈ ks, SqT K H1 p.1 (p.2.map V.int)) ∧ (∀ p ∈ ks, p.2 ≠ []) ∧ (ks.length ≤ 4000 ∧ (dd (ks.map (·.2))).length ≤ 300) ∧ ∀ p (L : List (Addr × List Int)), H1 p = none → (∀ x ∈ L, x ∈ ks) → L.map (·.2) = sortR (ks.map (·.2)) → Q (.ref p) (upd H1 p (.lst (L.map fun x => V.ref x.1))))
section
variable {X : Cx} {a : Expr} {f : Fe} {p p2 q pos : Pos}
theorem pe_sortSet {ta : TE} (hc : X.calm = true) (hu : X.A.units + 64 < cLine) (hg : Gl X "sorted") (hm : X.mg "sorted" = none) (hg2 : Gl X "set") (hm2 : X.mg "set" = none) (ha : PE X a ta)
    (na : starEach [a] X.env = (false, eval a X.env) :: starEach [] X.env := by rfl) (nb : starEach [Expr.Call (.Name "set" p2) [a] [] q] X.env = (false, eval (Expr.Call (.Name "set" p2) [a] [] q) X.env) :: starEach [] X.env := by rfl) :
    PE X (.Call (.Name "sorted" p) [.Call (.Name "set" p2) [a] [] q] [] pos) (tSortSet X.K ta) := by
  refine ⟨fun pins s σ H Q I h => ?_⟩
  refine Call_ (ld_blt I hg hm PyProof.Rows.boot_sorted ?_)
  refine PyProof.Rows.callWith_builtin1 (PyProof.Rows.args_cons ?_ nb) nb rfl
  refine Call_ (ld_blt I hg2 hm2 PyProof.Rows.boot_set ?_)
  refine PyProof.Rows.callWith_type1 (PyProof.Rows.args_cons (thn (ha.run pins s σ H _ I h) fun v s1 ⟨x, H1, I1, r1, q1⟩ => PyProof.Rows.args_nil ?_) na) na rfl
  rcases q1 with ⟨l, ns, rfl, h1, h2, h3⟩ | ⟨l, ks, rfl, h1, h2, h3, h4, h5⟩
  · cases r1
    exact wpAny_mono (sorted_setI hc hu I1 h1 h2 h3) (fun v s2 z => PyProof.Rows.args_nil z) fun _ _ z => z
  · cases r1
    exact wpAny_mono (sorted_setT' hc hu I1 h1 h2 h3 h4.1 h4.2 h5) (fun v s2 z => PyProof.Rows.args_nil z) fun _ _ z => z
theorem vf_sortSet (hc : X.calm = true) (hu : X.A.units + 64 < cLine) (hg : Gl X "sorted") (hm : X.mg "sorted" = none) (hg2 : Gl X "set") (hm2 : X.mg "set" = none) (ha : VE X a f)
    (na : starEach [a] X.env = (false, eval a X.env) :: starEach [] X.env := by rfl) (nb : starEach [Expr.Call (.Name "set" p2) [a] [] q] X.env = (false, eval (Expr.Call (.Name "set" p2) [a] [] q) X.env) :: starEach [] X.env := by rfl) :
    VF X (.Call (.Name "sorted" p) [.Call (.Name "set" p2) [a] [] q] [] pos) (eUn sortSetD f) := by
  obtain ⟨t, pt, sn⟩ := ha.ex
  refine ⟨_, pe_sortSet hc hu hg hm hg2 hm2 pt na nb, ?_⟩
  intro G W σ H s d s' R hf Q hq
  unfold eUn at hf
  simp only [Option.bind_eq_some_iff, Option.map_eq_some_iff] at hf
  obtain ⟨⟨x, s1⟩, e1, z, e2, e3⟩ := hf
  cases e3
  refine sn G W σ H s x _ R e1 _ fun v H1 R1 z1 p1 => ?_
  dsimp only at e2
  unfold sortSetD at e2
  split at e2
  · rename_i ds
    cases p1 with
    | @lst l xs ds n hl rs =>
      split at e2
      · rename_i ns hr
        split at e2
        · rename_i hlen
          cases e2
          obtain ⟨rfl, rfl⟩ := rs.rowsI hr
          exact .inl ⟨l, ns, rfl, SqL.of hl, hlen, fun p hn => hq p _ (none_back R z1 R1.there hn) (R1.laid hn) (z1.laid' hn) (new_list hn (reps_ints _))⟩
        · cases e2
      · split at e2
        · rename_i rs' hr
          split at e2
          · rename_i hlen
            cases e2
            obtain ⟨L, e1, e2, e3⟩ := rs.rowsT hr
            subst e1
            refine .inr ⟨l, L, rfl, SqL.of hl, fun p hp => .inl (.inl (e3 p hp).2.1), fun p hp => (e3 p hp).2.2, by rw [← e2, List.length_map] at hlen; exact hlen, fun p L' hn sub hs => ?_⟩
            rw [← e2, ← hs] at hq
            exact hq p _ (none_back R z1 R1.there hn) (R1.laid hn) (z1.laid' hn) (new_list hn (reps_rows fun q hq => ⟨(e3 q (sub q hq)).1, (e3 q (sub q hq)).2.1⟩))
          · cases e2
        · cases e2
  · cases e2
end
end Fx
-- Fx18
namespace Fx
open PySem PySem.Spec L2
/-! ### calls with keywords, every parameter given -/
structure VKw (X : Cx) (ks : List Keyword) (f : Fa) : Prop where
  ex : ∃ t, PK X ks t ∧ SndA (evX X) t f
section
variable {X : Cx} {k n : Nat} {f : Addr} {fd : FuncData} {ps ks : List Str} {g : List D → Option D} {x : Str} {p pos kpos : Pos} {e : Expr} {es : List Expr} {kws : List Keyword} {fa fk : Fa} {fe : Fe} {nm : Option Str}
theorem vk_nil : VKw X [] aNil := ⟨_, pk_nil, fun G W σ H s d s' R hf Q hq => by cases hf; exact hq [] H R Fz.refl .nil⟩
theorem vk_cons (h : VE X e fe) (hr : VKw X kws fa) : VKw X (⟨nm, e, kpos⟩ :: kws) (aCons fe fa) := by
  obtain ⟨t, p, sn⟩ := h.ex
  obtain ⟨tr, pr, sr⟩ := hr.ex
  refine ⟨_, pk_cons p pr, ?_⟩
  intro G W σ H s d s' R hf Q hq
  unfold aCons at hf
  simp only [Option.bind_eq_some_iff, Option.map_eq_some_iff] at hf
  obtain ⟨⟨x, s1⟩, h1, ⟨xs, s2⟩, h2, h3⟩ := hf
  cases h3
  refine sn G W σ H s x s1 R h1 _ fun v H1 R1 z1 p1 => ?_
  exact sr G W σ H1 s1 xs _ R1 h2 _ fun vs H2 R2 z2 p2 => hq _ H2 R2 (z1.trans z2) (.cons (p1.fz z2) p2)
def eFnK (n m : Nat) (g : List D → Option D) (fa fk : Fa) : Fe := fun s => (fa s).bind fun (xs, s1) => (fk s1).bind fun (ys, s2) => if xs.length = n ∧ ys.length = m then (g (xs ++ ys)).map fun z => (z, s2) else none
theorem ve_fnK {nn : Nat} (F : FnOk X.prog X.w X.K X.mg X.base CX0 k f fd ps (spV (evX X) nn g)) (hr : Room k X.A) (hg : Gl X x) (hm : X.mg x = some (.ref f)) (hk : PySem.W.keepIn X.K (.ref f) = true) (hb : KBn X.K fd ps n ks (· ++ ·) (· ++ ·)) (ha : VA X (e :: es) fa) (hw : VKw X kws fk) (hn : n + ks.length = nn)
    (hall : (backToKw pos (keywordEach kws X.env)).all (·.1.isSome) = true := by rfl) (hks : (backToKw pos (keywordEach kws X.env)).filterMap (·.1) = ks := by rfl)
    (hdb : (x == ("__debug__" : Str)) = false := by decide +kernel) (he : starEach (e :: es) X.env = (false, eval e X.env) :: starEach es X.env := by rfl)
    (hpl : ((backTo pos (starEach (e :: es) X.env)).any (·.1) || (backToKw pos (keywordEach kws X.env)).any (·.1.isNone)) = false := by rfl) :
    VE X (.Call (.Name x p) (e :: es) kws pos) (eFnK n ks.length g fa fk) := by
  obtain ⟨t, pa, sa⟩ := ha.ex
  obtain ⟨u, pk, sk⟩ := hw.ex
  refine ⟨_, pe_callN F hr hg hm hk hb (pass0 (X := X)) pa pk hall hks hdb he hpl, ?_⟩
  intro G W σ H s d s' R hf Q hq
  unfold eFnK at hf
  simp only [Option.bind_eq_some_iff] at hf
  obtain ⟨⟨xs, s1⟩, h1, ⟨ys, s2⟩, h2, h3⟩ := hf
  dsimp only at h3
  split at h3
  · rename_i hl
    simp only [Option.map_eq_some_iff] at h3
    obtain ⟨z, h4, h5⟩ := h3
    cases h5
    refine sa G W σ H s xs s1 R h1 _ fun vs H1 R1 z1 p1 => ?_
    refine sk G W σ H1 s1 ys _ R1 h2 _ fun zs H2 R2 z2 p2 => ⟨by rw [p1.length]; exact hl.1, by rw [p2.length]; exact hl.2, ?_⟩
    refine ⟨Av G W, xs ++ ys, d, by rw [List.length_append, hl.1, hl.2]; exact hn, (p1.fz z2).append p2, R2.fre, h4, fun v H3 sm p3 => ?_⟩
    exact hq v H3 (R2.same sm) ((z1.trans z2).trans (Fz.of_same sm)) p3
  · cases h3
theorem kbn_all {K : PySem.W.Frag} {x qual : Str} {st : Stmt} (F : Fun K x qual st f fd) (h : ∀ (kV doc pm : Value) (an : Option Addr) (cdv ct : Value) (us ws : List Value), us.length = n → ws.length = ks.length → bindArgs (PySem.W.fnOf x qual (defArgs st) (defBody st) (defScope st) .none kV doc pm an cdv ct) ⟨us, ks.zip ws⟩ = pure (ps.zip (us ++ ws))) :
    KBn K fd ps n ks (· ++ ·) (· ++ ·) := by
  obtain ⟨oc, od, kV, doc, pm, an, cdv, ct, osl, rfl, lk, hcd⟩ := F.ex
  refine ⟨fun s us ws _ h1 h2 => .of_eq (h kV doc pm an cdv ct us ws h1 h2), fun r1 r2 => ?_⟩
  induction r1 with
  | nil => exact r2
  | cons r _ ih => exact .cons r ih
end
end Fx
-- Fx19
namespace Fx
open PySem PySem.Spec L2
/-! ### the town is made; the law's def -/
def rowOf (ns : List Int) : List Int := if ns = [] then [0] else ns
def spTown (K : PySem.W.Frag) : Sp := fun vs H Q _ => ∃ (a : Addr) (ns : List Int), vs = [.ref a] ∧ SqL K H a (ns.map V.int) ∧ ns.length ≤ 63 ∧ ∀ tl rl H', tl ≠ rl → H' tl = some (.lst [.ref rl, .int 0]) → H' rl = some (.lst ((rowOf ns).map .int)) → Q (.ref tl) H'
def spLaw (K : PySem.W.Frag) : Sp := fun vs H Q _ => ∃ (a : Addr) (ns : List Int), vs = [.ref a] ∧ SqL K H a (ns.map V.int) ∧ ns.length ≤ 63 ∧ ∀ H', Q (.bl true) H'
theorem dpAll_ints {K : PySem.W.Frag} {H : Hp} : ∀ ns : List Int, DpAll K H (ns.map V.int) (ns.map PyData.int)
  | [] => .nil
  | n :: ns => .cons (.int n) (dpAll_ints ns)
theorem shaped_ints (ns : List Int) : SeqAt.shaped (.list (ns.map PyData.int)) = true := by
  have h1 : ∀ ns : List Int, PyData.canLayAll0 (ns.map PyData.int) = true := fun ns => by
    induction ns with
    | nil => rfl
    | cons n ns ih => show (PyData.canLay0 (.int n) && PyData.canLayAll0 (ns.map PyData.int)) = true; rw [ih]; rfl
  unfold SeqAt.shaped
  rw [PyData.depth, PySem.W.depth_ints, PyData.canLay0, h1]
  rfl
theorem eqv_nil (ns : List Int) : PyData.eqv (.list (ns.map PyData.int)) (.list []) = decide (ns = []) := by
  cases ns <;> rfl
section
variable {P : Program} {w : World} {K : PySem.W.Frag} {mg : Str → Option Value} {base : Heap} {st : Stmt} {f : Addr} {fd : FuncData}
theorem ok_town {p1 p2 p3 p4 p5 p6 p7 p8 p9 p10 p11 p12 : Pos} {k1 k2 : Nat} (F : Fun K "_law_town" "_law_town" st f fd) (S : FnScope ["script"] ["script"] (defScope st)) (ml : mg "list" = none)
    (hb : defBody st = [.Return (some (.List [.IfExp (.Compare (.Name "script" p1) [.NotEq] [.List [] p2] p3) (.Call (.Name "list" p4) [.Name "script" p5] [] p6) (.List [.Constant (.int 0) k1 p7] p8) p9, .Constant (.int 0) k2 p10] p11)) p12])
    (hl : (defScope st).names.lookup ("list" : Str) = some .globalImplicit) (hs : (defScope st).names.lookup ("script" : Str) = some .local) : FnOk P w K mg base CX0 1 f fd ["script"] (spTown K) := by
  refine F.ok S (fun vs H Q E h => ?_) (fun cdv A outer s H vs Q E hr h => ?_)
  · obtain ⟨a, ns, rfl, _⟩ := h
    rfl
  · obtain ⟨a, ns, rfl, hS, hlen, q⟩ := h
    rw [hb]
    have hu : (cxB P w K mg base ["script"] "_law_town" st f cdv A outer s H E).A.units + 64 < cLine := hr.units
    refine ⟨_, pss_one (ps_ret (pe_lst (pa_cons (pe_ifExp (pt_cmpR (op_neD hu) (pe_var (i := 0) rfl (.inl hs) (by decide) (by decide)) (pe_lst pa_nil) rfl) (pe_callTy call_list_of hl ml (by decide +kernel) (pa_cons (pe_var (i := 0) rfl (.inl hs) (by decide) (by decide)) pa_nil)) (pe_lst (pa_cons pe_int pa_nil))) (pa_cons pe_int pa_nil)))), ?_⟩
    refine ⟨.ref a, rfl, Nat.zero_le _, fun e ne => ?_⟩
    have s1 : Same H (upd H e (.lst [])) := same_new ne
    refine ⟨.list (ns.map .int), .list [], .lst (s1.seq hS) (dpAll_ints ns), .lst (SqL.of upd_same) .nil, shaped_ints ns, rfl, ?_⟩
    rw [eqv_nil]
    refine ⟨_, rfl, ?_⟩
    by_cases h0 : ns = []
    · subst h0
      show if (!decide (([] : List Int) = [])) = true then _ else _
      rw [if_neg (by decide)]
      refine ⟨Nat.le_of_ble_eq_true rfl, fun r nr => ⟨Nat.le_of_ble_eq_true rfl, fun t nt => ?_⟩⟩
      have ntr : t ≠ r := fun z => by rw [z, upd_same] at nt; cases nt
      exact q t r _ ntr upd_same (by rw [upd_ne ntr.symm, upd_same]; rfl)
    · show if (!decide (ns = [])) = true then _ else _
      rw [if_pos (by simpa using h0)]
      refine ⟨.ref a, rfl, a, ns.map V.int, rfl, .inl (s1.seq hS), fun r nr => ⟨Nat.le_of_ble_eq_true rfl, fun t nt => ?_⟩⟩
      have ntr : t ≠ r := fun z => by rw [z, upd_same] at nt; cases nt
      exact q t r _ ntr upd_same (by rw [upd_ne ntr.symm, upd_same]; unfold rowOf; rw [if_neg h0])
abbrev W1 (t : Addr × Addr) : Wt := { ow := fun _ => none, tn := some t }
/-- the state behind town = _law_town(script) -/
def stLaw (n : Nat) (ns : List Int) : S := ⟨.any :: .tn :: List.replicate (n - 2) .no, some (rowOf ns, 0)⟩
theorem relLaw {E : Ev} {H : Hp} {a tl rl : Addr} {ns : List Int} {n : Nat} (h1 : tl ≠ rl) (h2 : H tl = some (.lst [.ref rl, .int 0])) (h3 : H rl = some (.lst ((rowOf ns).map .int))) : Rel E ⟨fun _ => none, fun _ => False, 0⟩ (W1 (tl, rl)) H (some (.ref a) :: some (.ref tl) :: List.replicate (n - 2) none) (stLaw n ns) := by
  have key : ∀ {j : Nat} {c : C}, (stLaw n ns).rho[j]? = some c → (j = 0 ∧ c = .any) ∨ (j = 1 ∧ c = .tn) ∨ (∃ i, j = i + 2 ∧ i < n - 2 ∧ c = .no) := fun {j c} q => by
    unfold stLaw at q
    match j, q with
    | 0, q => simp at q; exact .inl ⟨rfl, q.symm⟩
    | 1, q => simp at q; exact .inr (.inl ⟨rfl, q.symm⟩)
    | j + 2, q =>
      simp only [List.getElem?_cons_succ, List.getElem?_replicate] at q
      split at q
      · rename_i hl; cases q; exact .inr (.inr ⟨j, rfl, hl, rfl⟩)
      · cases q
  exact {
    len := by unfold stLaw; simp
    fr := fun a o e _ => by cases e
    val := fun j d q => by rcases key q with ⟨_, z⟩ | ⟨_, z⟩ | ⟨_, _, _, z⟩ <;> cases z
    own := fun j d q => by rcases key q with ⟨_, z⟩ | ⟨_, z⟩ | ⟨_, _, _, z⟩ <;> cases z
    dom := fun j a q => by cases q
    inj := fun j k a q => by cases q
    obj := fun a h => h.elim
    tow := ⟨h1, h2, h3⟩
    tnc := fun j q => by
      rcases key q with ⟨_, z⟩ | ⟨rfl, z⟩ | ⟨_, _, _, z⟩
      · cases z
      · exact ⟨tl, rl, rfl, rfl⟩
      · cases z
    rwc := fun j q => by rcases key q with ⟨_, z⟩ | ⟨_, z⟩ | ⟨_, _, _, z⟩ <;> cases z
    ptc := fun j q => by rcases key q with ⟨_, z⟩ | ⟨_, z⟩ | ⟨_, _, _, z⟩ <;> cases z
    noc := fun j q => by
      rcases key q with ⟨_, z⟩ | ⟨_, z⟩ | ⟨i, rfl, h, z⟩
      · cases z
      · cases z
      · simp only [List.getElem?_cons_succ, List.getElem?_replicate, if_pos h]
    pl := PlOk.no
    plc := fun j d q => by rcases key q with ⟨_, z⟩ | ⟨_, z⟩ | ⟨_, _, _, z⟩ <;> cases z }
def isTrueOut : Option (Fl × S) → Bool
  | some (.ret (.bool true), _) => true
  | _ => false
/-- the law's def: what stands behind the town's line gives True -/
theorem ok_law {p1 p2 p3 p4 p5 : Pos} {k : Nat} {N : List Str} {rest : List Stmt} {Fb : Fs} {fT : Addr} {fdT : FuncData} (F : Fun K "law" "law" st f fd) (S : FnScope ("script" :: "town" :: N) ["script"] (defScope st)) (FT : FnOk P w K mg base CX0 1 fT fdT ["script"] (spTown K)) (gT : mg "_law_town" = some (.ref fT)) (kT : PySem.W.keepIn K (.ref fT) = true) (bT : Binds K fdT ["script"] [])
    (hb : defBody st = .Assign [.Name "town" p1] (.Call (.Name "_law_town" p2) [.Name "script" p3] [] p4) p5 :: rest) (hl : (defScope st).names.lookup ("_law_town" : Str) = some .globalImplicit) (hs : (defScope st).names.lookup ("script" : Str) = some .local) (ht : Loc (defScope st) "town")
    (hr : ∀ (cdv : Value) (A : Around) (outer : List Env) (s : Shared) (H : Hp) (E : XK), Room (k + 1) (A.deeper (PyProof.Rows.envOfC "law" (defScope st) s.heap.objs.size f cdv)) → VB (cxB P w K mg base ("script" :: "town" :: N) "law" st f cdv A outer s H E) rest Fb)
    (ok : ∀ ns : List Int, ns.length ≤ 63 → isTrueOut (Fb (stLaw (N.length + 2) ns)) = true) : FnOk P w K mg base CX0 (k + 2) f fd ["script"] (spLaw K) := by
  refine F.ok S (fun vs H Q E h => ?_) (fun cdv A outer s H vs Q E hrm h => ?_)
  · obtain ⟨a, ns, rfl, _⟩ := h
    rfl
  · obtain ⟨a, ns, rfl, hS, hlen, q⟩ := h
    rw [hb]
    obtain ⟨t, pt, sn⟩ := (hr cdv A outer s H E hrm).ex
    refine ⟨_, pss_cons (ps_set (i := 1) S.nd rfl ht (pe_call FT (hrm.mono (by omega)) hl gT kT bT .nil pass0 (pa_cons (pe_var (i := 0) rfl (.inl hs) (by decide) (by decide)) pa_nil)) rfl (.inl rfl)) pt, ?_⟩
    refine ⟨.ref a, rfl, a, ns, rfl, hS, hlen, fun tl rl H1 h1 h2 h3 => ?_⟩
    have R := relLaw (E := ⟨P, w, K⟩) (a := a) (n := N.length + 2) (ns := ns) h1 h2 h3
    refine sn _ _ _ H1 _ _ R ?_
    have o := ok ns hlen
    show Post _ _ _ _ _ (Fb (stLaw (N.length + 2) ns))
    generalize Fb (stLaw (N.length + 2) ns) = r at o
    unfold isTrueOut at o
    split at o
    · intro W' v H' l _ rp
      cases rp
      exact q H'
    · cases o
end
end Fx
-- Fx20
namespace Fx
open PySem PySem.Spec L2
section
variable {k : Nat} {A : Around}
theorem u1 (r : Room k A) : A.units + 1 < cLine := by have := r.un; omega
theorem u64 (r : Room k A) : A.units + 64 < cLine := by have := r.un; omega
theorem u65 (r : Room k A) : A.units + 65 < cLine := by have := r.un; omega
end
/-- an expression that is not reached -/
def eNo : Fe := fun _ => none
theorem ve_no {X : Cx} {e : Expr} : VE X e eNo := ⟨fun _ _ _ => False, ⟨fun _ _ _ _ _ _ h => h.elim⟩, fun _ _ _ _ _ _ _ _ h => nomatch h⟩
def sThenFrz (i : Nat) (F : Fs) : Fs := fun s => match F s with
  | some (.next, s1) => match s1.rho[i]? with
    | some (.own (.list ds)) => some (.next, s1.put i (.val (.list ds)))
    | _ => none
  | _ => none
theorem vs_thenFrz (i : Nat) {X : Cx} {st : Stmt} {F : Fs} (h : VS X st F) : VS X st (sThenFrz i F) := by
  obtain ⟨t, p, sn⟩ := h.ex
  refine ⟨t, p, fun G W σ H s Dn R po => sn G W σ H s Dn R ?_⟩
  unfold sThenFrz at po
  match e : F s, po with
  | none, po => exact po.elim
  | some (.next, s1), po =>
    dsimp only at po
    split at po
    · rename_i ds e1
      intro W' σ' H' R' z k
      obtain ⟨a, e2, _, _⟩ := R'.own i _ e1
      obtain ⟨R2, z2⟩ := R'.freeze e1 e2 (H' := H') rfl
      exact po _ σ' H' R2 (z.trans z2) (k.trans wk_del)
    · exact po.elim
  | some (.brk, _), po => exact po.elim
  | some (.cont, _), po => exact po.elim
  | some (.ret _, _), po => exact po.elim
  | some (.retF _, _), po => exact po.elim
theorem vs_par3 {X : Cx} {i j l : Nat} {x y z : Str} {a b c : Expr} {fa : Fa} {px py pz pt pt2 pos : Pos} {kt k2 : Nat} (ha : VA X [a, b, c] fa) (hc : X.calm = true) (hN : X.N.Nodup) (hi : X.N[i]? = some x := by rfl) (hj : X.N[j]? = some y := by rfl) (hl : X.N[l]? = some z := by rfl) (hij : i ≠ j := by decide) (hil : i ≠ l := by decide) (hjl : j ≠ l := by decide)
    (hx : X.env.scope.names.lookup x = some .local := by rfl) (hy : X.env.scope.names.lookup y = some .local := by rfl) (hz : X.env.scope.names.lookup z = some .local := by rfl)
    (hw : swappedStores [.Tuple [.Name x px, .Name y py, .Name z pz] kt pt] (.Tuple [a, b, c] k2 pt2) X.env = pure (some [x, y, z]) := by rfl)
    (hs : swapsWithSole [.Tuple [.Name x px, .Name y py, .Name z pz] kt pt] (.Tuple [a, b, c] k2 pt2) pos.line X.env = pure false := by rfl) :
    VS X (.Assign [.Tuple [.Name x px, .Name y py, .Name z pz] kt pt] (.Tuple [a, b, c] k2 pt2) pos) (sPar3 i j l fa) := by
  obtain ⟨t, p, sn⟩ := ha.ex
  refine ⟨_, ps_par3 hc hN hi hj hl hij hil hjl hx hy hz p hw hs, fun G W σ H s Dn R po => ?_⟩
  unfold sPar3 at po
  match e1 : fa s, po with
  | none, po => exact po.elim
  | some (ds, s1), po =>
    dsimp only [Option.bind] at po
    split at po
    · refine sn G W σ H s _ s1 R e1 _ fun v H1 R1 z1 p1 => ?_
      cases p1 with
      | cons r1 rt =>
        cases rt with
        | cons r2 rt =>
          cases rt with
          | cons r3 rn =>
            cases rn
            refine ⟨_, _, _, rfl, po _ _ H1 (((R1.put r1).put (r2.weak av_del)).put ((r3.weak av_del).weak av_del)) (((z1.trans fz_del).trans fz_del).trans fz_del) ((wk_del.trans wk_del).trans wk_del)⟩
    · exact po.elim
end Fx
-- Fe0
namespace Fx
open PySem PySem.Spec L2
/-! ### the functions' values -/
section
variable {f1 f2 f3 f c : Fe} {fa : Fa} {s s1 s2 : S} {p q : Bool} {d x y z : D} {g : D → D → Option D} {h : D → Option D} {k : List D → Option D} {xs : List D} {n : Nat} {F F1 F2 : Fs} {r : Option (Fl × S)}
theorem eAnd_ev (h1 : f1 s = some (.bool p, s1)) (h2 : p = true → f2 s1 = some (.bool q, s1)) : eAnd f1 f2 s = some (.bool (p && q), s1) := by
  unfold eAnd
  rw [h1]
  cases p with
  | false => rfl
  | true => exact h2 rfl
theorem eOr_ev (h1 : f1 s = some (.bool p, s1)) (h2 : p = false → f2 s1 = some (.bool q, s1)) : eOr f1 f2 s = some (.bool (p || q), s1) := by
  unfold eOr
  rw [h1]
  cases p with
  | true => rfl
  | false => exact h2 rfl
theorem eBin_ev (h1 : f1 s = some (x, s1)) (h2 : f2 s1 = some (y, s2)) (h3 : g x y = some z) : eBin g f1 f2 s = some (z, s2) := by
  unfold eBin
  simp only [h1, h2, h3, Option.bind_some, Option.map_some]
theorem eUn_ev (h1 : f1 s = some (x, s1)) (h3 : h x = some z) : eUn h f1 s = some (z, s1) := by
  unfold eUn
  simp only [h1, h3, Option.bind_some, Option.map_some]
theorem not_ev (h1 : f1 s = some (.bool p, s1)) : eUn notD f1 s = some (.bool (!p), s1) := eUn_ev h1 rfl
theorem eFn_ev (h1 : fa s = some (xs, s1)) (hn : xs.length = n) (h2 : k xs = some d) : eFn n k fa s = some (d, s1) := by
  unfold eFn
  simp only [h1, h2, hn, Option.bind_some, Option.map_some, if_true]
theorem eCall_ev (h1 : fa s = some (xs, s1)) (h2 : k xs = some d) : eCall k fa s = some (d, s1) := by
  unfold eCall
  simp only [h1, h2, Option.bind_some, Option.map_some]
theorem aCons_ev (h1 : f s = some (x, s1)) (h2 : fa s1 = some (xs, s2)) : aCons f fa s = some (x :: xs, s2) := by
  unfold aCons
  simp only [h1, h2, Option.bind_some, Option.map_some]
theorem aOne_ev (h1 : f s = some (x, s1)) : aCons f aNil s = some ([x], s1) := aCons_ev h1 rfl
theorem eTup_ev (h1 : fa s = some (xs, s1)) (hl : xs.length ≤ 100000) : eTup fa s = some (.tuple xs, s1) := by
  unfold eTup
  simp only [h1, Option.bind_some, if_pos hl]
theorem eLst_ev (h1 : fa s = some (xs, s1)) (hl : xs.length ≤ 100000) : eLst fa s = some (.list xs, s1) := by
  unfold eLst
  simp only [h1, Option.bind_some, if_pos hl]
theorem sSeq_ev (h1 : F1 s = some (.next, s1)) (h2 : F2 s1 = r) : sSeq F1 F2 s = r := by
  unfold sSeq
  rw [h1]
  exact h2
theorem sSeq_ret {rv : Fl} (h1 : F1 s = some (rv, s1)) (hr : rv ≠ .next) : sSeq F1 F2 s = some (rv, s1) := by
  unfold sSeq
  rw [h1]
  cases rv <;> first | rfl | exact absurd rfl hr
theorem sSeq_for {P : S → Prop} (h1 : ∃ s', F1 s = some (.next, s') ∧ P s') (h2 : ∀ s', P s' → F2 s' = r) : sSeq F1 F2 s = r := by
  obtain ⟨s', e, p⟩ := h1
  exact sSeq_ev e (h2 s' p)
theorem sIf_ev (h1 : c s = some (.bool p, s1)) (ht : p = true → F1 s1 = r) (hf : p = false → F2 s1 = r) : sIf c F1 F2 s = r := by
  unfold sIf
  rw [h1]
  cases p with
  | true => exact ht rfl
  | false => exact hf rfl
theorem sIf_f (h1 : c s = some (.bool false, s1)) (hf : F2 s1 = r) : sIf c F1 F2 s = r := sIf_ev h1 (fun z => nomatch z) fun _ => hf
theorem sIf_t (h1 : c s = some (.bool true, s1)) (hf : F1 s1 = r) : sIf c F1 F2 s = r := sIf_ev h1 (fun _ => hf) fun z => nomatch z
theorem sRet_ev (h : f s = some (d, s1)) : sRet f s = some (.ret d, s1) := by unfold sRet; rw [h]; rfl
theorem sSet_ev {i : Nat} (h : f s = some (d, s1)) : sSet i f s = some (.next, s1.put i (.val d)) := by unfold sSet; rw [h]; rfl
theorem sExpr_ev (h : f s = some (d, s1)) : sExpr f s = some (.next, s1) := by unfold sExpr; rw [h]; rfl
theorem sAsg_ev {gt : Fg} (h : f s = some (d, s1)) (h2 : gt d s1 = some s2) : sAsg f gt s = some (.next, s2) := by unfold sAsg; rw [h]; simp only [Option.bind_some, h2, Option.map_some]
theorem sSetF_ev {i : Nat} (h : f s = some (d, s1)) (hi : i < s1.rho.length) : sSetF i f s = some (.next, s1.put i (.own d)) := by unfold sSetF; rw [h]; simp only [Option.bind_some, if_pos hi]
theorem sExt_ev {i : Nat} {ds es : List D} (h0 : s.ownL i = some ds) (h : f s = some (.list es, s)) (hl : ds.length + es.length ≤ 100000) : sExt i f s = some (.next, s.put i (.own (.list (ds ++ es)))) := by
  unfold sExt
  simp only [h0, h, Option.bind_some, if_pos hl]
theorem fnV_ev {ds : List D} {rho : List C} (h : F (st0 n ds) = some (.ret d, ⟨rho, none⟩)) : fnV n F ds = some d := by unfold fnV; rw [h]; rfl
theorem fnV_next {ds : List D} {rho : List C} (h : F (st0 n ds) = some (.next, ⟨rho, none⟩)) : fnV n F ds = some .none := by unfold fnV; rw [h]; rfl
theorem fnV_list {ds es : List D} {rho : List C} (h : F (st0 n ds) = some (.retF (.list es), ⟨rho, none⟩)) : fnV n F ds = some (.list es) := by unfold fnV; rw [h]; rfl
end
theorem iterS_ev {f : Fe} {s s1 : S} {d : D} {ds : List D} (h : f s = some (d, s1)) (h2 : seqD d = some ds) : iterS f s = some (ds, s1) := by
  unfold iterS
  rw [h, Option.bind_some]
  dsimp only
  rw [h2]
  rfl
/-! with the state behind told by what holds of it -/
section
variable {F F1 F2 : Fs} {s : S} {r : Fl} {P Q : S → Prop} {n : Nat} {ds : List D} {d v v' : D} {b : Bool}
theorem fnV_ex (h : ∃ s', F (st0 n ds) = some (.ret d, s') ∧ s'.tw = none) : fnV n F ds = some d := by
  obtain ⟨⟨rho, tw⟩, h1, h2⟩ := h
  cases h2
  exact fnV_ev h1
theorem seq_ex (h1 : ∃ s1, F1 s = some (.next, s1) ∧ P s1) (h2 : ∀ s1, P s1 → ∃ s2, F2 s1 = some (r, s2) ∧ Q s2) : ∃ s2, sSeq F1 F2 s = some (r, s2) ∧ Q s2 := by
  obtain ⟨s1, e, p⟩ := h1
  obtain ⟨s2, e2, q⟩ := h2 s1 p
  exact ⟨s2, sSeq_ev e e2, q⟩
theorem seq_until (h1 : ∃ s1, F1 s = some (if b then .ret v else .next, s1) ∧ P s1) (h2 : b = false → ∀ s1, P s1 → ∃ s2, F2 s1 = some (.ret v', s2) ∧ P s2) : ∃ s2, sSeq F1 F2 s = some (.ret (if b then v else v'), s2) ∧ P s2 := by
  obtain ⟨s1, e, p⟩ := h1
  cases b with
  | true => exact ⟨s1, sSeq_ret e (fun z => nomatch z), p⟩
  | false =>
    obtain ⟨s2, e2, q⟩ := h2 rfl s1 p
    exact ⟨s2, sSeq_ev e e2, q⟩
theorem ex_of {s1 : S} (h : F s = some (r, s1)) (hp : P s1) : ∃ s', F s = some (r, s') ∧ P s' := ⟨s1, h, hp⟩
end
/-! comprehensions -/
section
variable {α : Type} {fi : Fa} {g : Fg} {ft f : Fe} {vs : List Nat} {s : S}
theorem cl_ev (enc : α → D) (p : α → Bool) (out : α → D) {w : S} : ∀ {xs : List α} {acc : List D}, (∀ x ∈ xs, ∃ sx, g (enc x) w = some sx ∧ ft sx = some (.bool (p x), sx) ∧ (p x = true → f sx = some (out x, sx)) ∧ sx.wipe vs = w) → acc.length + xs.length ≤ 100000 → clLoop g ft vs (pEmit f) (xs.map enc) acc w = some (acc ++ (xs.filter p).map out, w)
  | [], acc, _, _ => by simp [clLoop]
  | x :: xs, acc, h, hl => by
    obtain ⟨sx, h1, h2, h3, h4⟩ := h x List.mem_cons_self
    have hr : ∀ y ∈ xs, ∃ sx, g (enc y) w = some sx ∧ ft sx = some (.bool (p y), sx) ∧ (p y = true → f sx = some (out y, sx)) ∧ sx.wipe vs = w := fun y hy => h y (List.mem_cons_of_mem _ hy)
    rw [List.length_cons] at hl
    rw [List.map_cons]
    unfold clLoop
    rw [h1, Option.bind_some, h2, Option.bind_some]
    cases q : p x with
    | true =>
      dsimp only
      unfold pEmit
      rw [h3 q, Option.bind_some]
      dsimp only
      rw [if_pos (by omega), Option.bind_some, h4]
      have ih := cl_ev enc p out (acc := acc ++ [out x]) hr (by rw [List.length_append, List.length_singleton]; omega)
      unfold pEmit at ih
      rw [ih, List.filter_cons_of_pos q, List.map_cons, List.append_assoc]
      rfl
    | false =>
      dsimp only
      rw [h4]
      have ih := cl_ev enc p out (acc := acc) hr (by omega)
      rw [ih, List.filter_cons_of_neg (by rw [q]; exact Bool.false_ne_true)]
theorem comp_ev (xs : List α) (enc : α → D) (p : α → Bool) (out : α → D) {s1 : S} (h1 : fi s = some (xs.map enc, s1)) (hv : noOwn s1 vs = true) (hm : s1.mix (s1.wipe vs) vs = s1) (hs : ∀ x ∈ xs, ∃ sx, g (enc x) (s1.wipe vs) = some sx ∧ ft sx = some (.bool (p x), sx) ∧ (p x = true → f sx = some (out x, sx)) ∧ sx.wipe vs = s1.wipe vs) (hl : xs.length ≤ 100000) :
    eComp fi g ft vs (pEmit f) s = some (.list ((xs.filter p).map out), s1) := by
  unfold eComp
  rw [h1, Option.bind_some]
  dsimp only
  rw [if_pos hv, cl_ev enc p out hs (by simpa using hl), Option.map_some]
  dsimp only
  rw [hm, List.nil_append]
theorem clg_ev (enc : α → D) (p : α → Bool) (L : α → List D) {inner : Fp} {w : S} : ∀ {xs : List α} {acc : List D}, (∀ x ∈ xs, ∃ sx, g (enc x) w = some sx ∧ ft sx = some (.bool (p x), sx) ∧ (p x = true → ∀ acc, acc.length + (L x).length ≤ 100000 → inner acc sx = some (acc ++ L x, sx)) ∧ sx.wipe vs = w) → acc.length + ((xs.filter p).flatMap L).length ≤ 100000 → clLoop g ft vs inner (xs.map enc) acc w = some (acc ++ (xs.filter p).flatMap L, w)
  | [], acc, _, _ => by simp [clLoop]
  | x :: xs, acc, h, hl => by
    obtain ⟨sx, h1, h2, h3, h4⟩ := h x List.mem_cons_self
    have hr : ∀ y ∈ xs, ∃ sx, g (enc y) w = some sx ∧ ft sx = some (.bool (p y), sx) ∧ (p y = true → ∀ acc, acc.length + (L y).length ≤ 100000 → inner acc sx = some (acc ++ L y, sx)) ∧ sx.wipe vs = w := fun y hy => h y (List.mem_cons_of_mem _ hy)
    rw [List.map_cons]
    unfold clLoop
    rw [h1, Option.bind_some, h2, Option.bind_some]
    cases q : p x with
    | true =>
      rw [List.filter_cons_of_pos q, List.flatMap_cons, List.length_append] at hl
      dsimp only
      rw [h3 q acc (by omega), Option.bind_some]
      dsimp only
      rw [h4, clg_ev enc p L hr (by rw [List.length_append]; omega), List.filter_cons_of_pos q, List.flatMap_cons, List.append_assoc]
    | false =>
      have q' : ¬ p x = true := by rw [q]; exact Bool.false_ne_true
      rw [List.filter_cons_of_neg q'] at hl ⊢
      dsimp only
      rw [h4, clg_ev enc p L hr hl]
theorem compg_ev (xs : List α) (enc : α → D) (p : α → Bool) (L : α → List D) {inner : Fp} {s1 : S} (h1 : fi s = some (xs.map enc, s1)) (hv : noOwn s1 vs = true) (hm : s1.mix (s1.wipe vs) vs = s1) (hs : ∀ x ∈ xs, ∃ sx, g (enc x) (s1.wipe vs) = some sx ∧ ft sx = some (.bool (p x), sx) ∧ (p x = true → ∀ acc, acc.length + (L x).length ≤ 100000 → inner acc sx = some (acc ++ L x, sx)) ∧ sx.wipe vs = s1.wipe vs) (hl : ((xs.filter p).flatMap L).length ≤ 100000) :
    eComp fi g ft vs inner s = some (.list ((xs.filter p).flatMap L), s1) := by
  unfold eComp
  rw [h1, Option.bind_some]
  dsimp only
  rw [if_pos hv, clg_ev enc p L hs (by simpa using hl), Option.map_some]
  dsimp only
  rw [hm, List.nil_append]
/-- an inner clause -/
theorem pfor_ev (ys : List α) (enc : α → D) (p : α → Bool) (out : α → D) {acc : List D} (h0 : allNo s vs = true) (h1 : fi s = some (ys.map enc, s)) (hs : ∀ y ∈ ys, ∃ sy, g (enc y) s = some sy ∧ ft sy = some (.bool (p y), sy) ∧ (p y = true → f sy = some (out y, sy)) ∧ sy.wipe vs = s) (hl : acc.length + ys.length ≤ 100000) :
    pFor fi g ft vs (pEmit f) acc s = some (acc ++ (ys.filter p).map out, s) := by
  unfold pFor
  rw [if_pos h0, h1, Option.bind_some]
  exact cl_ev enc p out hs hl
/-- .. without a test -/
theorem map_ev (xs : List α) (enc : α → D) (out : α → D) {s1 : S} (h1 : fi s = some (xs.map enc, s1)) (hv : noOwn s1 vs = true) (hm : s1.mix (s1.wipe vs) vs = s1) (hs : ∀ x ∈ xs, ∃ sx, g (enc x) (s1.wipe vs) = some sx ∧ f sx = some (out x, sx) ∧ sx.wipe vs = s1.wipe vs) (hl : xs.length ≤ 100000) :
    eComp fi g (eC (.bool true)) vs (pEmit f) s = some (.list (xs.map out), s1) := by
  have h := comp_ev (ft := eC (.bool true)) xs enc (fun _ => true) out h1 hv hm (fun x hx => by obtain ⟨sx, a, b, c⟩ := hs x hx; exact ⟨sx, a, rfl, fun _ => b, c⟩) hl
  rw [h, List.filter_eq_self.mpr fun _ _ => rfl]
/-! loops -/
theorem loop_inv {β : Type} {F : Fs} (enc : α → D) (I : β → S → Prop) (step : β → α → β) : ∀ {xs : List α}, (∀ b s x, x ∈ xs → I b s → ∃ s1 s2, g (enc x) s = some s1 ∧ (F s1 = some (.next, s2) ∨ F s1 = some (.cont, s2)) ∧ I (step b x) s2) → ∀ {b : β} {s : S}, I b s → ∃ s', loopF g F (xs.map enc) s = some (.next, s') ∧ I (xs.foldl step b) s'
  | [], _, b, s, h => ⟨s, rfl, h⟩
  | x :: xs, hs, b, s, h => by
    obtain ⟨s1, s2, h1, h2, h3⟩ := hs b s x List.mem_cons_self h
    obtain ⟨s', h4, h5⟩ := loop_inv enc I step (fun b s y hy hI => hs b s y (List.mem_cons_of_mem _ hy) hI) h3
    refine ⟨s', ?_, h5⟩
    rw [List.map_cons]
    unfold loopF
    rw [h1, Option.bind_some]
    rcases h2 with h2 | h2 <;> rw [h2] <;> exact h4
theorem for_inv {β : Type} {F : Fs} (xs : List α) (enc : α → D) (I : β → S → Prop) (step : β → α → β) {b : β} {s1 : S} (h0 : fi s = some (xs.map enc, s1)) (hI : I b s1) (h : ∀ b s x, x ∈ xs → I b s → ∃ s1 s2, g (enc x) s = some s1 ∧ (F s1 = some (.next, s2) ∨ F s1 = some (.cont, s2)) ∧ I (step b x) s2) : ∃ s', sFor fi g F s = some (.next, s') ∧ I (xs.foldl step b) s' := by
  obtain ⟨s', h1, h2⟩ := loop_inv enc I step h hI
  refine ⟨s', ?_, h2⟩
  unfold sFor
  rw [h0, Option.bind_some]
  exact h1
/-- by what has been walked so far -/
theorem loop_pre {F : Fs} (enc : α → D) (I : List α → S → Prop) {all : List α} (h : ∀ pre x suf s, all = pre ++ x :: suf → I pre s → ∃ s1 s2, g (enc x) s = some s1 ∧ (F s1 = some (.next, s2) ∨ F s1 = some (.cont, s2)) ∧ I (pre ++ [x]) s2) : ∀ (xs pre : List α) {s : S}, all = pre ++ xs → I pre s → ∃ s', loopF g F (xs.map enc) s = some (.next, s') ∧ I all s'
  | [], pre, s, e, hI => ⟨s, rfl, by rw [e, List.append_nil]; exact hI⟩
  | x :: xs, pre, s, e, hI => by
    obtain ⟨s1, s2, h1, h2, h3⟩ := h pre x xs s e hI
    obtain ⟨s', h4, h5⟩ := loop_pre enc I h xs (pre ++ [x]) (by rw [e, List.append_assoc]; rfl) h3
    refine ⟨s', ?_, h5⟩
    rw [List.map_cons]
    unfold loopF
    rw [h1, Option.bind_some]
    rcases h2 with h2 | h2 <;> rw [h2] <;> exact h4
theorem for_pre {F : Fs} (xs : List α) (enc : α → D) (I : List α → S → Prop) {s1 : S} (h0 : fi s = some (xs.map enc, s1)) (hI : I [] s1) (h : ∀ pre x suf s, xs = pre ++ x :: suf → I pre s → ∃ s1 s2, g (enc x) s = some s1 ∧ (F s1 = some (.next, s2) ∨ F s1 = some (.cont, s2)) ∧ I (pre ++ [x]) s2) : ∃ s', sFor fi g F s = some (.next, s') ∧ I xs s' := by
  obtain ⟨s', h1, h2⟩ := loop_pre enc I h xs [] rfl hI
  refine ⟨s', ?_, h2⟩
  unfold sFor
  rw [h0, Option.bind_some]
  exact h1
/-- a loop that may end by a return: until p holds -/
theorem loop_until {F : Fs} (enc : α → D) (I : S → Prop) (p : α → Bool) {rv : Fl} (hrv : ∃ d, rv = .ret d) : ∀ {xs : List α}, (∀ s x, x ∈ xs → I s → ∃ s1 s2, g (enc x) s = some s1 ∧ (p x = true → F s1 = some (rv, s2)) ∧ (p x = false → F s1 = some (.next, s2)) ∧ I s2) → ∀ {s : S}, I s → ∃ s', loopF g F (xs.map enc) s = some (if xs.any p then rv else .next, s') ∧ I s'
  | [], _, s, h => ⟨s, rfl, h⟩
  | x :: xs, hs, s, h => by
    obtain ⟨s1, s2, h1, h2, h3, h4⟩ := hs s x List.mem_cons_self h
    rw [List.map_cons]
    unfold loopF
    rw [h1, Option.bind_some]
    cases q : p x with
    | true =>
      rw [h2 q]
      obtain ⟨d, rfl⟩ := hrv
      exact ⟨s2, by rw [List.any_cons, q]; rfl, h4⟩
    | false =>
      rw [h3 q]
      obtain ⟨s', h5, h6⟩ := loop_until enc I p hrv (fun s y hy hI => hs s y (List.mem_cons_of_mem _ hy) hI) h4
      exact ⟨s', by rw [List.any_cons, q, Bool.false_or]; exact h5, h6⟩
theorem for_until {F : Fs} (xs : List α) (enc : α → D) (I : S → Prop) (p : α → Bool) {rv : Fl} (hrv : ∃ d, rv = .ret d) {s1 : S} (h0 : fi s = some (xs.map enc, s1)) (hI : I s1) (h : ∀ s x, x ∈ xs → I s → ∃ s1 s2, g (enc x) s = some s1 ∧ (p x = true → F s1 = some (rv, s2)) ∧ (p x = false → F s1 = some (.next, s2)) ∧ I s2) : ∃ s', sFor fi g F s = some (if xs.any p then rv else .next, s') ∧ I s' := by
  obtain ⟨s', h1, h2⟩ := loop_until enc I p hrv h hI
  refine ⟨s', ?_, h2⟩
  unfold sFor
  rw [h0, Option.bind_some]
  exact h1
end
theorem while_go {c : Fe} {F : Fs} {n : Nat} {s s1 s2 : S} (h1 : c s = some (.bool true, s1)) (h2 : F s1 = some (.next, s2)) : whileF c F (n + 1) s = whileF c F n s2 := by
  conv => lhs; unfold whileF
  rw [h1, Option.bind_some]
  dsimp only
  rw [h2]
theorem while_stop {c : Fe} {F : Fs} {n : Nat} {s s1 : S} (h1 : c s = some (.bool false, s1)) : whileF c F (n + 1) s = some (.next, s1) := by
  unfold whileF
  rw [h1]
  rfl
/-! ranges -/
def rng (lo hi : Int) : List Int := (List.range (hi - lo).toNat).map fun (k : Nat) => lo + k
theorem mem_rng {lo hi x : Int} : x ∈ rng lo hi ↔ lo ≤ x ∧ x < hi := by
  unfold rng
  rw [List.mem_map]
  constructor
  · rintro ⟨k, hk, rfl⟩
    rw [List.mem_range] at hk
    omega
  · rintro ⟨h1, h2⟩
    exact ⟨(x - lo).toNat, List.mem_range.mpr (by omega), by omega⟩
theorem rangeL_eq (lo hi : Int) : rangeL lo hi = (rng lo hi).map .int := by
  unfold rangeL rng
  rw [List.map_map]
  rfl
theorem range1_ev {fa : Fa} {s s1 : S} {n : Int} (h : fa s = some ([.int n], s1)) (hn : -1000000 ≤ n ∧ n ≤ 1000000) : iterA range1D fa s = some ((rng 0 n).map .int, s1) := by
  unfold iterA
  rw [h, Option.bind_some]
  dsimp only
  unfold range1D
  dsimp only
  rw [if_pos hn, Option.map_some, rangeL_eq]
theorem range2_ev {fa : Fa} {s s1 : S} {m n : Int} (h : fa s = some ([.int m, .int n], s1)) (hn : -1000000 ≤ m ∧ m ≤ 1000000 ∧ -1000000 ≤ n ∧ n ≤ 1000000) : iterA range2D fa s = some ((rng m n).map .int, s1) := by
  unfold iterA
  rw [h, Option.bind_some]
  dsimp only
  unfold range2D
  dsimp only
  rw [if_pos hn, Option.map_some, rangeL_eq]
theorem rng_len (lo hi : Int) : (rng lo hi).length = (hi - lo).toNat := by unfold rng; simp
/-! builtins -/
theorem blsD_map {α : Type} (p : α → Bool) : ∀ xs : List α, blsD (xs.map fun x => .bool (p x)) = some (xs.map p)
  | [] => rfl
  | x :: xs => by show ((blsD (xs.map fun x => .bool (p x))).map (p x :: ·)) = _; rw [blsD_map p xs]; rfl
theorem allD_map {α : Type} (p : α → Bool) (xs : List α) : allD [.list (xs.map fun x => .bool (p x))] = some (.bool (xs.all p)) := by
  show (blsD (xs.map fun x => .bool (p x))).map (fun bs => PyData.bool (bs.all id)) = _
  rw [blsD_map, Option.map_some]
  simp [List.all_map, Function.comp_def]
theorem anyD_map {α : Type} (p : α → Bool) (xs : List α) : anyD [.list (xs.map fun x => .bool (p x))] = some (.bool (xs.any p)) := by
  show (blsD (xs.map fun x => .bool (p x))).map (fun bs => PyData.bool (bs.any id)) = _
  rw [blsD_map, Option.map_some]
  simp [List.any_map, Function.comp_def]
theorem intsD_map {α : Type} (p : α → Int) : ∀ xs : List α, intsD (xs.map fun x => .int (p x)) = some (xs.map p)
  | [] => rfl
  | x :: xs => by show ((intsD (xs.map fun x => .int (p x))).map (p x :: ·)) = _; rw [intsD_map p xs]; rfl
theorem while_upto {c : Fe} {F : Fs} {n m : Nat} (hm : n < m) (st : Nat → S) (go : ∀ k, k < n → c (st k) = some (.bool true, st k) ∧ F (st k) = some (.next, st (k + 1))) (stop : c (st n) = some (.bool false, st n)) : sWhile m c F (st 0) = some (.next, st n) := by
  have key : ∀ j k, k + j = n → whileF c F (m - k) (st k) = some (.next, st n) := by
    intro j
    induction j with
    | zero =>
      intro k hk
      have e : k = n := by omega
      subst e
      have e2 : m - k = (m - k - 1) + 1 := by omega
      rw [e2]
      exact while_stop stop
    | succ j ih =>
      intro k hk
      obtain ⟨h1, h2⟩ := go k (by omega)
      have e2 : m - k = (m - (k + 1)) + 1 := by omega
      rw [e2, while_go h1 h2]
      exact ih (k + 1) (by omega)
  exact key n 0 (by omega)
theorem foldl_flat {α β : Type} (f : α → List β) : ∀ (xs : List α) (acc : List β), xs.foldl (fun acc x => acc ++ f x) acc = acc ++ xs.flatMap f
  | [], acc => by simp
  | x :: xs, acc => by rw [List.foldl_cons, foldl_flat f xs, List.flatMap_cons, List.append_assoc]
theorem flat_len {α β : Type} {f : α → List β} {m : Nat} : ∀ {xs : List α}, (∀ x ∈ xs, (f x).length ≤ m) → (xs.flatMap f).length ≤ xs.length * m
  | [], _ => by simp
  | x :: xs, h => by
    rw [List.flatMap_cons, List.length_append, List.length_cons, Nat.succ_mul]
    have := h x List.mem_cons_self
    have := flat_len (xs := xs) fun y hy => h y (List.mem_cons_of_mem _ hy)
    omega
theorem mulD_ev {a b : Int} (h : (-(2 ^ 64) < a ∧ a < 2 ^ 64) ∨ (-(2 ^ 64) < b ∧ b < 2 ^ 64)) : mulD (.int a) (.int b) = some (.int (a * b)) := by
  show (if _ then some (PyData.int (a * b)) else none) = _
  rw [if_pos h]
end Fx
-- Fx21
namespace Fx
open PySem PySem.Spec L2
/-! ### calls where keyword-only parameters take their defaults (whole numbers) -/
/-- three lists put in the parameters' order -/
inductive Ord3 where
  | pmk | pkm
def Ord3.put {α : Type} : Ord3 → List α → List α → List α → List α
  | .pmk, us, mv, ws => us ++ mv ++ ws
  | .pkm, us, mv, ws => us ++ ws ++ mv
theorem Ord3.vals (o : Ord3) {vs mz zs : List V} {us mv ws : List Value} (h1 : Vals vs us) (h2 : Vals mz mv) (h3 : Vals zs ws) : Vals (o.put vs mz zs) (o.put us mv ws) := by
  have app : ∀ {a b : List V} {c d : List Value}, Vals a c → Vals b d → Vals (a ++ b) (c ++ d) := fun {a b c d} r1 r2 => by
    induction r1 with
    | nil => exact r2
    | cons r _ ih => exact .cons r ih
  cases o
  · exact app (app h1 h2) h3
  · exact app (app h1 h3) h2
theorem Ord3.reps (o : Ord3) {E : Ev} {A : Addr → Prop} {H : Hp} {vs mz zs : List V} {us mv ws : List D} (h1 : Reps E A H vs us) (h2 : Reps E A H mz mv) (h3 : Reps E A H zs ws) : Reps E A H (o.put vs mz zs) (o.put us mv ws) := by
  cases o
  · exact (h1.append h2).append h3
  · exact (h1.append h3).append h2
theorem Ord3.len (o : Ord3) {α : Type} (us mv ws : List α) : (o.put us mv ws).length = us.length + mv.length + ws.length := by
  cases o <;> simp [Ord3.put] <;> omega
/-- how such a call binds -/
def KBo (K : PySem.W.Frag) (fd : FuncData) (ps : List Str) (n : Nat) (ks : List Str) (o : Ord3) (ms : List Int) : Prop := ∃ gv, KBn K fd ps n ks gv (fun vs zs => o.put vs (ms.map V.int) zs)
def eFnN (n m : Nat) (o : Ord3) (ms : List Int) (g : List D → Option D) (fa fk : Fa) : Fe := fun s => (fa s).bind fun (xs, s1) => (fk s1).bind fun (ys, s2) => if xs.length = n ∧ ys.length = m then (g (o.put xs (ms.map .int) ys)).map fun z => (z, s2) else none
def eFnD (n : Nat) (ms : List Int) (g : List D → Option D) (fa : Fa) : Fe := fun s => (fa s).bind fun (xs, s1) => if xs.length = n then (g (xs ++ ms.map .int)).map fun z => (z, s1) else none
section
variable {X : Cx} {k n nn : Nat} {f : Addr} {fd : FuncData} {ps ks : List Str} {g : List D → Option D} {x : Str} {p pos kpos : Pos} {e : Expr} {es : List Expr} {kws : List Keyword} {fa fk : Fa} {o : Ord3} {ms : List Int}
theorem ve_fnN (F : FnOk X.prog X.w X.K X.mg X.base CX0 k f fd ps (spV (evX X) nn g)) (hr : Room k X.A) (hg : Gl X x) (hm : X.mg x = some (.ref f)) (hk : PySem.W.keepIn X.K (.ref f) = true) (hb : KBo X.K fd ps n ks o ms) (ha : VA X (e :: es) fa) (hw : VKw X kws fk) (hn : n + ms.length + ks.length = nn)
    (hall : (backToKw pos (keywordEach kws X.env)).all (·.1.isSome) = true := by rfl) (hks : (backToKw pos (keywordEach kws X.env)).filterMap (·.1) = ks := by rfl)
    (hdb : (x == ("__debug__" : Str)) = false := by decide +kernel) (he : starEach (e :: es) X.env = (false, eval e X.env) :: starEach es X.env := by rfl)
    (hpl : ((backTo pos (starEach (e :: es) X.env)).any (·.1) || (backToKw pos (keywordEach kws X.env)).any (·.1.isNone)) = false := by rfl) :
    VE X (.Call (.Name x p) (e :: es) kws pos) (eFnN n ks.length o ms g fa fk) := by
  obtain ⟨t, pa, sa⟩ := ha.ex
  obtain ⟨u, pk, sk⟩ := hw.ex
  obtain ⟨gv, hb⟩ := hb
  refine ⟨_, pe_callN F hr hg hm hk hb (pass0 (X := X)) pa pk hall hks hdb he hpl, ?_⟩
  intro G W σ H s d s' R hf Q hq
  unfold eFnN at hf
  simp only [Option.bind_eq_some_iff] at hf
  obtain ⟨⟨xs, s1⟩, h1, ⟨ys, s2⟩, h2, h3⟩ := hf
  dsimp only at h3
  split at h3
  · rename_i hl
    simp only [Option.map_eq_some_iff] at h3
    obtain ⟨z, h4, h5⟩ := h3
    cases h5
    refine sa G W σ H s xs s1 R h1 _ fun vs H1 R1 z1 p1 => ?_
    refine sk G W σ H1 s1 ys _ R1 h2 _ fun zs H2 R2 z2 p2 => ⟨by rw [p1.length]; exact hl.1, by rw [p2.length]; exact hl.2, ?_⟩
    refine ⟨Av G W, o.put xs (ms.map .int) ys, d, by rw [Ord3.len, hl.1, hl.2, List.length_map]; exact hn, o.reps (p1.fz z2) (reps_ints ms) p2, R2.fre, h4, fun v H3 sm p3 => ?_⟩
    exact hq v H3 (R2.same sm) ((z1.trans z2).trans (Fz.of_same sm)) p3
  · cases h3
/-- no keyword at all -/
theorem ve_fnD (F : FnOk X.prog X.w X.K X.mg X.base CX0 k f fd ps (spV (evX X) nn g)) (hr : Room k X.A) (hg : Gl X x) (hm : X.mg x = some (.ref f)) (hk : PySem.W.keepIn X.K (.ref f) = true) (hb : ∃ ds, Vals (ms.map V.int) ds ∧ Binds X.K fd ps ds) (ha : VA X (e :: es) fa) (hn : n + ms.length = nn) (hdb : (x == ("__debug__" : Str)) = false := by decide +kernel) (ns : NS X e es pos := by exact ⟨rfl, rfl⟩) :
    VE X (.Call (.Name x p) (e :: es) [] pos) (eFnD n ms g fa) := by
  obtain ⟨t, pa, sa⟩ := ha.ex
  obtain ⟨ds, hd, hb⟩ := hb
  refine ⟨_, pe_call F hr hg hm hk hb hd pass0 pa hdb ns.he ns.hpl, ?_⟩
  intro G W σ H s d s' R hf Q hq
  unfold eFnD at hf
  simp only [Option.bind_eq_some_iff] at hf
  obtain ⟨⟨xs, s1⟩, h1, h3⟩ := hf
  dsimp only at h3
  split at h3
  · rename_i hl
    simp only [Option.map_eq_some_iff] at h3
    obtain ⟨z, h4, h5⟩ := h3
    cases h5
    refine sa G W σ H s xs _ R h1 _ fun vs H1 R1 z1 p1 => ?_
    refine ⟨Av G W, xs ++ ms.map .int, d, by rw [List.length_append, List.length_map, hl]; exact hn, p1.append (reps_ints ms), R1.fre, h4, fun v H3 sm p3 => ?_⟩
    exact hq v H3 (R1.same sm) (z1.trans (Fz.of_same sm)) p3
  · cases h3
end
/-! facts about such a def -/
theorem kbo_of {K : PySem.W.Frag} {x qual : Str} {params : Arguments} {body : List Stmt} {scope : Scope} {kws : List (Str × V)} {f : Addr} {fd : FuncData} {ps : List Str} (F : FunD K x qual params body scope [] kws f fd) (n : Nat) (ks : List Str) (o : Ord3) (ms : List (Str × Int)) (hk : kws ≠ []) (hms : ∀ q ∈ ms, (q.1, V.int q.2) ∈ kws)
    (h : ∀ (D : Addr) (doc pm : Value) (an : Option Addr) (cdv ct : Value) (us mv ws : List Value), us.length = n → mv.length = (ms.map fun q => (q.1, V.int q.2)).length → ws.length = ks.length →
      KwChain D (((ms.map fun q => (q.1, V.int q.2)).map (·.1)).zip mv) (bindArgs (PySem.W.fnOf x qual params body scope .none (.ref D) doc pm an cdv ct) ⟨us, ks.zip ws⟩) (ps.zip (o.put us mv ws))) : KBo K fd ps n ks o (ms.map (·.2)) := by
  obtain ⟨mv, hb⟩ := FunD.kbinds0 (ps := ps) F n ks (ms.map fun q => (q.1, V.int q.2)) (fun {α} us mv ws => o.put us mv ws) hk (fun q hq => by
    obtain ⟨q', h1, rfl⟩ := List.mem_map.mp hq
    exact hms q' h1) (fun h1 h2 h3 => o.vals h1 h2 h3) h
  refine ⟨fun us ws => o.put us mv ws, ?_⟩
  have e : (ms.map (·.2)).map V.int = (ms.map fun q => (q.1, V.int q.2)).map (·.2) := by rw [List.map_map, List.map_map]; rfl
  rw [e]
  exact hb
end Fx
-- Fx22
namespace Fx
open PySem PySem.Spec L2
/-! ### isinstance(x, (S, T)) -/
def isi2D (S T : Ty) (d : D) : Option D := (isiB S d).bind fun b => if b = true then some (.bool true) else isiD T d
section
variable {X : Cx} {p p2 p3 p4 pos tpos : Pos} {e : Expr} {f : Fe} {k : Nat}
theorem ve_isi2 (S T : Ty) (hg : Gl X "isinstance") (hm : X.mg "isinstance" = none) (hgS : Gl X (nameT S)) (hmS : X.mg (nameT S) = none) (hgT : Gl X (nameT T)) (hmT : X.mg (nameT T) = none) (h : VE X e f) {x y : Str} (hx : x = nameT S := by rfl) (hy : y = nameT T := by rfl)
    (hv : bootBuiltins "isinstance" = some (.builtin "isinstance") := by decide +kernel) (hvS : bootBuiltins (nameT S) = some (.type S.name) := by decide +kernel) (hvT : bootBuiltins (nameT T) = some (.type T.name) := by decide +kernel)
    (hnS : nameT S ≠ "__name__" := by decide +kernel) (hdS : (nameT S == ("__debug__" : Str)) = false := by decide +kernel) (hn : nameT T ≠ "__name__" := by decide +kernel) (hd : (nameT T == ("__debug__" : Str)) = false := by decide +kernel)
    (ns : NS X e [.Tuple [.Name x p2, .Name y p3] k tpos] pos := by exact ⟨rfl, rfl⟩) (hs : starEach [.Tuple [.Name x p2, .Name y p3] k tpos] X.env = (false, eval (.Tuple [.Name x p2, .Name y p3] k tpos) X.env) :: starEach [] X.env := by rfl)
    (h1 : starEach [.Name x p2, .Name y p3] X.env = (false, eval (.Name x p2) X.env) :: starEach [.Name y p3] X.env := by rfl) (h2 : starEach [.Name y p3] X.env = (false, eval (.Name y p3) X.env) :: starEach [] X.env := by rfl) :
    VE X (.Call (.Name "isinstance" p) [e, .Tuple [.Name x p2, .Name y p3] k tpos] [] pos) (eUn (isi2D S T) f) := by
  subst hx hy
  obtain ⟨t, pe, sn⟩ := h.ex
  refine ⟨_, pe_callB call_isiT hg hm hv (pa_cons pe (pa_cons (pe_tup (pa_cons (pe_bltn (v := .ty S.name) hgS hmS hvS rfl hnS hdS) (pa_cons (pe_bltn (v := .ty T.name) hgT hmT hvT rfl hn hd) pa_nil h2) h1)) pa_nil hs) ns.he) (by decide) (by decide) ns.he ns.hpl, ?_⟩
  intro G W σ H s d s' R hf Q hq
  obtain ⟨x, h1, h2⟩ := eUn_some hf
  refine sn G W σ H s x s' R h1 _ fun v H1 R1 z1 p1 => ?_
  unfold isi2D at h2
  simp only [Option.bind_eq_some_iff] at h2
  obtain ⟨b, h3, h4⟩ := h2
  obtain ⟨n, e1, ty⟩ := p1.ty h3
  have k1 := kit_is S x e1 h3
  refine ⟨by show 2 ≤ sizeLine; rw [sizeLine_eq]; omega, fun q hn => ?_⟩
  have sm : Same H1 (upd H1 q (.tup [.ty S.name, .ty T.name])) := fun b o e => by rw [upd_ne (ne_of_none e hn)]; exact e
  have p2 := p1.fz (Fz.of_same sm)
  obtain ⟨n', e1', ty'⟩ := p2.ty h3
  rw [e1] at e1'; cases e1'
  cases b with
  | true =>
    cases h4
    exact ⟨v, q, [.ty S.name, .ty T.name], .type n, [.type S.name, .type T.name], true, rfl, upd_same, .cons (.ty _) (.cons (.ty _) .nil), ty', kitAny_cons (kit_ty k1) (fun z => nomatch z) fun _ => rfl, hq _ _ (R1.same sm) (z1.trans (Fz.of_same sm)) (.bl true)⟩
  | false =>
    unfold isiD at h4
    simp only [Bool.false_eq_true, if_false, Option.map_eq_some_iff] at h4
    obtain ⟨b, h5, rfl⟩ := h4
    have k2 := kit_is T x e1 h5
    exact ⟨v, q, [.ty S.name, .ty T.name], .type n, [.type S.name, .type T.name], b, rfl, upd_same, .cons (.ty _) (.cons (.ty _) .nil), ty', kitAny_cons (kit_ty k1) (fun _ => kitAny_cons (kit_ty k2) (fun z => by rw [z]; exact kitAny_nil) fun z => z) (fun z => nomatch z), hq _ _ (R1.same sm) (z1.trans (Fz.of_same sm)) (.bl b)⟩
end
/-! ### a def whose last parameter is () where it lacks -/
def eFnE (n : Nat) (g : List D → Option D) (fa : Fa) : Fe := fun s => (fa s).bind fun (xs, s1) => if xs.length = n then (g (xs ++ [.tuple []])).map fun z => (z, s1) else none
section
variable {X : Cx} {k n nn : Nat} {f a0 : Addr} {fd : FuncData} {ps : List Str} {g : List D → Option D} {x : Str} {p pos : Pos} {e : Expr} {es : List Expr} {fa : Fa}
theorem ve_fnE (F : FnOk X.prog X.w X.K X.mg X.base CX0 k f fd ps (spV (evX X) nn g)) (hr : Room k X.A) (hg : Gl X x) (hm : X.mg x = some (.ref f)) (hk : PySem.W.keepIn X.K (.ref f) = true) (hb : ∃ ds, Vals [V.ref a0] ds ∧ Binds X.K fd ps ds) (ht : KT0 X.K a0) (ha : VA X (e :: es) fa) (hn : n + 1 = nn) (hdb : (x == ("__debug__" : Str)) = false := by decide +kernel) (ns : NS X e es pos := by exact ⟨rfl, rfl⟩) :
    VE X (.Call (.Name x p) (e :: es) [] pos) (eFnE n g fa) := by
  obtain ⟨t, pa, sa⟩ := ha.ex
  obtain ⟨ds, hd, hb⟩ := hb
  refine ⟨_, pe_call F hr hg hm hk hb hd pass0 pa hdb ns.he ns.hpl, ?_⟩
  intro G W σ H s d s' R hf Q hq
  unfold eFnE at hf
  simp only [Option.bind_eq_some_iff] at hf
  obtain ⟨⟨xs, s1⟩, h1, h3⟩ := hf
  dsimp only at h3
  split at h3
  · rename_i hl
    simp only [Option.map_eq_some_iff] at h3
    obtain ⟨z, h4, h5⟩ := h3
    cases h5
    refine sa G W σ H s xs _ R h1 _ fun vs H1 R1 z1 p1 => ?_
    refine ⟨Av G W, xs ++ [.tuple []], d, by rw [List.length_append, hl]; exact hn, p1.append (.cons (.tup (.inr ⟨rfl, ht⟩) .nil) .nil), R1.fre, h4, fun v H3 sm p3 => ?_⟩
    exact hq v H3 (R1.same sm) (z1.trans (Fz.of_same sm)) p3
  · cases h3
end
section
variable {P : Program} {w : World} {K : PySem.W.Frag} {mg : Str → Option Value} {base : Heap} {x qual : Str} {st : Stmt} {f : Addr} {fd : FuncData} {N ps : List Str} {k : Nat} {Fb : Fs} {dvs : List V} {kws : List (Str × V)}
theorem fn_VD (F : FunD K x qual (defArgs st) (defBody st) (defScope st) dvs kws f fd) (S : FnScope N ps (defScope st)) (hb : BodyV P w K mg base N qual st f k Fb) : FnOk P w K mg base CX0 (k + 1) f fd ps (spV ⟨P, w, K⟩ ps.length (fnV N.length Fb)) := by
  refine F.ok (CX := CX0) S (fun vs H Q E h => spV_len vs H Q E h) fun cdv A outer s H vs Q E hr h => ?_
  obtain ⟨O, ds, d, hl, rs, fr, hg, hq⟩ := h
  obtain ⟨t, p, sn⟩ := (hb cdv A outer s H E hr).ex
  exact ⟨t, p.nox, sn ⟨H, O, 0⟩ W0 _ H _ _ (rel0 rs fr (by rw [hl]; exact ps_le S)) (post0V hg hq)⟩
/-- such a def, from what stands -/
theorem funE_mk {a0 T : Addr} {oc : Value} {od an : Option Addr} {osl tsl : Array (Option Value)} {kV doc pm cdv ct tc : Value} {td : Option Addr} {tn : Nat} (l : K.lookup f = some ⟨oc, od, .func (PySem.W.fnOf x qual (defArgs st) (defBody st) (defScope st) (.ref T) kV doc pm an cdv ct), osl⟩)
    (c : PySem.W.codeIn K cdv qual = true) (hk : PySem.W.keepIn K (.ref f) = true) (lT : K.lookup T = some ⟨tc, td, .seq #[.ref a0] tn, tsl⟩) : FunD K x qual (defArgs st) (defBody st) (defScope st) [V.ref a0] [] f (PySem.W.fnOf x qual (defArgs st) (defBody st) (defScope st) (.ref T) kV doc pm an cdv ct) :=
  ⟨⟨oc, od, .ref T, kV, doc, pm, an, cdv, ct, osl, rfl, l, c, .inr ⟨(fun z => nomatch z), T, _, [.ref a0], tn, rfl, lT, rfl, .cons rfl .nil⟩, .inl rfl⟩, hk⟩
theorem binds_nil (h : ∃ ds, Vals ([] : List V) ds ∧ Binds K fd ps ds) : Binds K fd ps [] := by
  obtain ⟨ds, h1, h2⟩ := h
  cases h1
  exact h2
theorem kt0_mk {a0 : Addr} {od : Option Addr} {n : Nat} {sl : Array (Option Value)} (l : K.lookup a0 = some ⟨.type "tuple", od, .seq #[] n, sl⟩) : KT0 K a0 := ⟨_, _, _, l, rfl, rfl, Nat.zero_le _, .nil⟩
end
/-! ### d == {} -/
def emptyD : D → D → Option D
  | .dict kvs, .dict [] => some (.bool kvs.isEmpty)
  | _, _ => none
section
variable {prog : Program} {w : World} {A : Around} {E : Value → Shared → Prop} {s : Shared}
structure DObj (h : Heap) (a : Addr) (n : Nat) : Prop where
  ns : (a == sysModules) = false
  ex : ∃ o es ep, h.get? a = some o ∧ o.ExactDict ∧ o.data = .dict es ep ∧ es.size = n
theorem rc_empty {a b : Addr} {n : Nat} (ha : DObj s.heap a n) (hb : DObj s.heap b 0) (hu : A.units < cLine) (Q : Value → Shared → Prop) (h : Q (.bool (n == 0)) s) : wpAny (model prog w) A (richCompare .Eq (.ref a) (.ref b)) Q E s := by
  obtain ⟨na, oa, es, ep, ga, xa, da, rfl⟩ := ha
  obtain ⟨nb, ob, es', ep', gb, xb, db, hz⟩ := hb
  have ta : Shared.TypeIs s (.ref a) "dict" := ⟨_, ga, xa.1⟩
  have tb : Shared.TypeIs s (.ref b) "dict" := ⟨_, gb, xb.1⟩
  refine wpAny_richCompare_same_room (op := .Eq) ta tb PySem.F.slot_dict_eq (wpAny_call_entry PySem.F.slot_dict_eq ta PySem.F.entry_dict_eq ?_ (PySem.F.args_dict_eq_2 _ _)) hu
  show wpAny _ _ (Builtin.Dict.dictSlotArgs "__eq__" ⟨[.ref a, .ref b], []⟩ >>= _) _ _ s
  refine wpAny_bind ?_
  unfold Builtin.Dict.dictSlotArgs
  refine wpAny_bind (wpAny_notOrdered_dict ta ?_)
  refine wpAny_pure (wpAny_bind (wpAny_isInstance (T := "dict") tb PySem.F.sub_dict_dict ?_))
  rw [show (!true) = false from rfl, if_neg Bool.false_ne_true]
  refine wpAny_bind (wpAny_pure (wpAny_bind (wpAny_pure (wpAny_bind ?_))))
  have fin : ∀ c : Bool, c = (es.size == 0) → wpAny (model prog w) A.in1.in1 (pure (Value.bool c)) (fun r s' => r = .bool c ∧ s' = s) E s := fun c e => wpAny_pure ⟨rfl, rfl⟩
  unfold Builtin.Dict.samePairs Builtin.Dict.showsAll
  rw [na, nb]
  refine wpAny_bind (wpAny_pure (wpAny_bind (wpAny_pure (wpAny_bind (wpAny_dictEntries ga da ?_)))))
  refine wpAny_bind (wpAny_dictEntries gb db ?_)
  dsimp only
  by_cases hs : es.size = 0
  · rw [if_neg (by rw [hs, hz]; decide)]
    refine wpAny_bind (wpAny_dictEpoch ga da ?_)
    rw [Std.Legacy.Range.forIn_eq_forIn_range']
    simp only [Std.Legacy.Range.size, hs]
    refine wpAny_bind (wpAny_pure ?_)
    refine wpAny_pure ?_
    refine wpAny_pure ⟨_, rfl, (fun z => nomatch z), ?_⟩
    rw [hs] at h
    exact h
  · rw [if_pos (by simpa [hz] using hs)]
    have e : (es.size == 0) = false := by simpa using hs
    rw [e] at h
    refine wpAny_bind (wpAny_rule (wpAny_pure ?_))
    exact wpAny_pure ⟨_, rfl, (fun z => nomatch z), h⟩
end
def DLen (H : Hp) (a : Addr) (n : Nat) : Prop := (∃ kvs, Rd H a (.dT kvs) ∧ kvs.length = n) ∨ (∃ kvs, Rd H a (.dK kvs) ∧ kvs.length = n) ∨ ∃ φ, Rd H a (.ext φ) ∧ ∀ h, φ h → DObj h a n
theorem DLen.obj {P : Program} {w : World} {H : Hp} {h : Heap} {a : Addr} {n : Nat} (ok : HOk P w H h) (d : DLen H a n) : DObj h a n := by
  rcases d with ⟨kvs, e, rfl⟩ | ⟨kvs, e, rfl⟩ | ⟨φ, e, h3⟩
  · obtain ⟨z, y, xs, r, o, es, ep, h1, h2, h3, h4, _⟩ := dt_rd ok e
    refine ⟨y, o, es, ep, h1, h2, h3, ?_⟩
    have l1 := congrArg List.length h4
    rw [Array.length_toList, List.length_map] at l1
    rw [l1]
    exact r.length.symm
  · obtain ⟨z, y, vs, r, o, es, ep, h1, h2, h3, h4, h5, _⟩ := dk_rd ok e
    refine ⟨y, o, es, ep, h1, h2, h3, ?_⟩
    have l1 : es.toList.length = vs.length := h5.length
    rw [Array.length_toList] at l1
    rw [l1]
    exact r.length.symm
  · exact h3 h (rd_of ok e).1
def rDE : R2 := fun x y H Q => ∃ a b n, x = .ref a ∧ y = .ref b ∧ DLen H a n ∧ DLen H b 0 ∧ Q (.bl (n == 0)) H
theorem op_dE {X : Cx} (hu : X.A.units + 1 < cLine) : OpR X (compareOp .Eq) rDE := by
  intro pins s σ H x y v u Q I rx ry h
  obtain ⟨a, b, n, rfl, rfl, da, db, q⟩ := h
  obtain rfl : v = Value.ref a := rx
  obtain rfl : u = Value.ref b := ry
  exact rc_empty (da.obj I.hok) (db.obj I.hok) (by omega) _ ⟨.bl (n == 0), H, I, rfl, q⟩
theorem entsT_len {E : Ev} {A : Addr → Prop} {H : Hp} : ∀ {xs : List (List Key × V)} {kvs : List (D × D)}, EntsT E A H xs kvs → xs.length = kvs.length
  | _, _, .nil => rfl
  | _, _, .cons _ _ t => congrArg Nat.succ (entsT_len t)
theorem entsK_len {E : Ev} {A : Addr → Prop} {H : Hp} : ∀ {xs : List (Key × V)} {kvs : List (D × D)}, EntsK E A H xs kvs → xs.length = kvs.length
  | _, _, .nil => rfl
  | _, _, .cons _ t => congrArg Nat.succ (entsK_len t)
theorem Rep.dlen {E : Ev} {A : Addr → Prop} {H : Hp} {v : V} {kvs : List (D × D)} (r : Rep E A H v (.dict kvs)) : ∃ a, v = .ref a ∧ DLen H a kvs.length := by
  cases r with
  | dt _ e t => exact ⟨_, rfl, .inl ⟨_, .inr ⟨_, e⟩, entsT_len t⟩⟩
  | dk _ e t _ => exact ⟨_, rfl, .inr (.inl ⟨_, .inr ⟨_, e⟩, entsK_len t⟩)⟩
  | dx _ e t _ =>
    refine ⟨_, rfl, .inr (.inr ⟨_, .inr ⟨_, e⟩, fun h n => ?_⟩)⟩
    obtain ⟨vs, rv, hs, _, o, es, ep, h1, h2, h3, h4, _⟩ := n
    refine ⟨hs, o, es, ep, h1, h2, h3, ?_⟩
    have l1 := congrArg List.length h4
    rw [Array.length_toList, List.length_map] at l1
    rw [l1, ← Paired.length rv, t.length]
theorem sr_dE {E : Ev} : SndRS E rDE emptyD := by
  intro A H x y dx dy dz rx ry e Q hq
  unfold emptyD at e
  split at e
  · rename_i kvs
    cases e
    obtain ⟨a, rfl, da⟩ := rx.dlen
    obtain ⟨b, rfl, db⟩ := ry.dlen
    refine ⟨a, b, kvs.length, rfl, rfl, da, db, hq _ fun _ _ => ?_⟩
    have z : (kvs.length == 0) = kvs.isEmpty := by cases kvs <;> rfl
    rw [z]
    exact .bl _
  · cases e
section
variable {X : Cx} {a b : Expr} {f1 f2 : Fe} {pos : Pos}
theorem ve_empty (hu : X.A.units + 1 < cLine) (ha : VE X a f1) (hb : VE X b f2) : VE X (.Compare a [.Eq] [b] pos) (eBin emptyD f1 f2) := ve_cmp (op_dE hu) sr_dE.r ha hb
theorem vt_empty (hu : X.A.units + 1 < cLine) (ha : VE X a f1) (hb : VE X b f2) : VT X (.Compare a [.Eq] [b] pos) (eBin emptyD f1 f2) := vt_cmp (op_dE hu) sr_dE.r ha hb
end
end Fx
-- Fx23
namespace Fx
open PySem PySem.Spec L2
/-! ### own lists: xs[i] = e, xs[i] += n; True + True -/
theorem Reps.setAt {E : Ev} {A : Addr → Prop} {H : Hp} : ∀ {xs : List V} {ds : List D} {j : Nat} {v : V} {d : D}, Reps E A H xs ds → Rep E A H v d → Reps E A H (xs.set j v) (ds.set j d)
  | _, _, _, _, _, .nil, _ => .nil
  | _, _, 0, _, _, .cons _ t, r => .cons r t
  | _, _, j + 1, _, _, .cons a t, r => .cons a (Reps.setAt t r)
def sIxSet (i : Nat) (f g : Fe) : Fs := fun s => (g s).bind fun (z, s1) => (s1.ownL i).bind fun _ => (f s1).bind fun (y, s2) => (s2.ownL i).bind fun ds => match y with
  | .int k => (ixN ds.length k).bind fun j => some (.next, s2.put i (.own (.list (ds.set j z))))
  | _ => none
def sIxInc (i : Nat) (f : Fe) (m : Int) : Fs := fun s => (s.ownL i).bind fun _ => (f s).bind fun (y, s1) => (s1.ownL i).bind fun ds => match y with
  | .int k => (ixN ds.length k).bind fun j => match ds[j]? with
    | some (.int n) => some (.next, s1.put i (.own (.list (ds.set j (.int (n + m))))))
    | _ => none
  | _ => none
section
variable {X : Cx} {i : Nat} {x : Str} {b e : Expr} {f g : Fe} {p p3 pos p4 : Pos} {k0 : Nat}
theorem vs_ixSet (i : Nat) (nv : NV X i x) (hb : VE X b f) (he : VE X e g)
    (hs : swapsWithSole [.Subscript (.Name x p) b p3] e pos.line X.env = pure false := by rfl) (hw : swappedStores [.Subscript (.Name x p) b p3] e X.env = pure none := by rfl) (h1 : (assignEach [.Subscript (.Name x p) b p3] X.env).map (·.2) = [assign (.Subscript (.Name x p) b p3) X.env] := by rfl)
    (ha : ∀ v, assign (.Subscript (.Name x p) b p3) X.env v = (do
      let ov ← holding [v] (eval (.Name x p) X.env)
      let iv ← holding [v, ov] (eval b X.env)
      standAt p3
      holding [v, ov, iv] (setItem ov iv v)
      release [v, ov, iv] []) := by intro _; rfl) : VS X (.Assign [.Subscript (.Name x p) b p3] e pos) (sIxSet i f g) := by
  obtain ⟨t, pt, sn⟩ := he.ex
  obtain ⟨u, pu, su⟩ := hb.ex
  refine ⟨_, ps_asg pt (pg_sub (pe_var nv.hN nv.hv nv.hd nv.hcd) pu set_list ha) hs hw h1, fun G W σ H s Dn R po => ?_⟩
  unfold sIxSet at po
  match e0 : g s, po with
  | none, po => exact po.elim
  | some (z, s1), po =>
    dsimp only [Option.bind] at po
    match e1 : s1.ownL i, po with
    | none, po => exact po.elim
    | some ds0, po =>
      dsimp only [Option.bind] at po
      match e2 : f s1, po with
      | none, po => exact po.elim
      | some (y, s2), po =>
        dsimp only [Option.bind] at po
        match e3 : s2.ownL i, po with
        | none, po => exact po.elim
        | some ds, po =>
          dsimp only [Option.bind] at po
          split at po
          · rename_i k _
            cases e4 : ixN ds.length k with
            | none => rw [e4] at po; exact po.elim
            | some j =>
              rw [e4] at po
              refine sn G W σ H s _ s1 R e0 _ fun v1 H1 R1 z1 p1 => ?_
              obtain ⟨a, w1, w2, t0⟩ := R1.own i _ (ownL_some e1)
              refine ⟨_, w2, su G W σ H1 s1 _ s2 R1 e2 _ fun v2 H2 R2 z2 p2 => ?_⟩
              obtain ⟨a', w1', w2', xs, hx, hr⟩ := R2.own i _ (ownL_some e3)
              rw [w1] at w1'; cases w1'
              cases p2
              have av : Av G W a := .inr (.inl ⟨i, w1⟩)
              refine ⟨a, xs, k, j, rfl, rfl, hx, by rw [hr.length]; exact e4, ?_⟩
              exact po W σ _ (R2.turn (ownL_some e3) w1 ⟨_, upd_same, (hr.setAt (p1.fz z2)).fz (Fz.turn av)⟩) ((z1.trans z2).trans (Fz.turn av)) Wk.refl
          · exact po.elim
theorem get_list : PGet X (rIxL X.K) := by
  intro pins s σ H o i ov iv Q I ro ri h
  obtain ⟨q, xs, k, z, rfl, rfl, hq, he, qz⟩ := h
  cases ro
  obtain ⟨t, rfl⟩ := ri
  obtain ⟨its, r, pl, hz⟩ := I.list hq
  obtain ⟨j, h1, h2, h3, h4, h5⟩ := atI_get he
  obtain ⟨w, ew, rw'⟩ := r.get h2
  have hl := r.length
  have fin : EP X pins σ Q w s := ⟨z, H, I, rw', qz⟩
  by_cases h0 : 0 ≤ k
  · have hj : k.toNat = j := by
      rw [seqIndex_of h0 h5] at h1
      exact Option.some.inj h1
    have hn := line63
    exact wpAny_getItem_list pl.isList h0 (by omega) (by rw [hj]; simpa using ew) fin
  · have hj : (k + (its.toArray.size : Int)).toNat = j := by
      rw [seqIndex_neg (by omega) h4] at h1
      rw [List.size_toArray, ← hl]
      exact Option.some.inj h1
    have hn := line63
    exact wpAny_getItem_list_neg pl.isList (by omega) (by rw [List.size_toArray]; omega) (by omega) (by rw [hj]; simpa using ew) fin
theorem vs_ixInc (i : Nat) (nv : NV X i x) (hb : VE X b f) (m : Int) (ha : ∀ ov iv new, augStore b ov iv new = (do holding [new, ov, iv] (setItem ov iv new); release [new, ov, iv] []; pure .next) := by intros; rfl) :
    VS X (.AugAssign (.Subscript (.Name x p) b p3) .Add (.Constant (.int m) k0 p4) pos) (sIxInc i f m) := by
  obtain ⟨u, pu, su⟩ := hb.ex
  refine ⟨_, ps_augS (pe_var nv.hN nv.hv nv.hd nv.hcd) pu get_list pe_int ip_add set_list ha, fun G W σ H s Dn R po => ?_⟩
  unfold sIxInc at po
  match e1 : s.ownL i, po with
  | none, po => exact po.elim
  | some ds0, po =>
    dsimp only [Option.bind] at po
    match e2 : f s, po with
    | none, po => exact po.elim
    | some (y, s1), po =>
      dsimp only [Option.bind] at po
      match e3 : s1.ownL i, po with
      | none, po => exact po.elim
      | some ds, po =>
        dsimp only [Option.bind] at po
        split at po
        · rename_i k _
          cases e4 : ixN ds.length k with
          | none => rw [e4] at po; exact po.elim
          | some j =>
            rw [e4] at po
            dsimp only [Option.bind] at po
            split at po
            · rename_i n e5
              obtain ⟨a, w1, w2, t0⟩ := R.own i _ (ownL_some e1)
              refine ⟨_, w2, su G W σ H s _ s1 R e2 _ fun v2 H2 R2 z2 p2 => ?_⟩
              obtain ⟨a', w1', w2', xs, hx, hr⟩ := R2.own i _ (ownL_some e3)
              rw [w1] at w1'; cases w1'
              cases p2
              have av : Av G W a := .inr (.inl ⟨i, w1⟩)
              have e6 : atI ds k = some (.int n) := by unfold atI; rw [e4]; exact e5
              obtain ⟨q, h1, h2⟩ := hr.atI e6
              cases h2
              refine ⟨a, xs, k, .int n, rfl, rfl, SqL.of hx, h1, ?_⟩
              refine ⟨n, m, rfl, rfl, a, xs, k, j, rfl, rfl, hx, by rw [hr.length]; exact e4, ?_⟩
              exact po W σ _ (R2.turn (ownL_some e3) w1 ⟨_, upd_same, (hr.setAt (.int _)).fz (Fz.turn av)⟩) (z2.trans (Fz.turn av)) Wk.refl
            · exact po.elim
        · exact po.elim
/-- bools are added -/
def bI (b : Bool) : Int := if b = true then 1 else 0
def addB : D → D → Option D
  | .bool p, .bool q => some (.int (bI p + bI q))
  | _, _ => none
def rAddB : R2 := fun x y H Q => ∃ p q, x = .bl p ∧ y = .bl q ∧ Q (.int (bI p + bI q)) H
theorem op_addB : OpR X (binaryOp .Add) rAddB := by
  intro pins s σ H x y v u Q I rx ry h
  obtain ⟨p, q, rfl, rfl, hq⟩ := h
  cases rx
  cases ry
  exact PyProof.Rows.add_bool ⟨.int (bI p + bI q), H, I.tok _, ⟨_, rfl⟩, hq⟩
theorem sr_addB {E : Ev} : SndRS E rAddB addB := by
  intro A H x y dx dy dz rx ry e Q hq
  unfold addB at e
  split at e
  · cases e
    cases rx
    cases ry
    exact ⟨_, _, rfl, rfl, hq _ fun _ _ => .int _⟩
  · cases e
theorem ve_addB {f1 f2 : Fe} {a : Expr} (ha : VE X a f1) (hb : VE X b f2) : VE X (.BinOp a .Add b pos) (eBin addB f1 f2) := ve_op op_addB sr_addB.r ha hb
end
end Fx
-- Fx24
namespace Fx
open PySem PySem.Spec PyProof.Rows L2
/-! ### max of a tuple; max of three -/
section
variable {prog : Program} {w : World} {A : Around} {E : Value → Shared → Prop} {s : Shared}
theorem max_tup {l : Addr} {its : List Value} {ns : List Int} {Q : Value → Shared → Prop} (hh : A.handled = none) (hl : s.heap.IsTuple l its.toArray) (hi : IntsAre its ns) (hne : 0 < ns.length)
    (h : ∀ h' tk M t', (∀ b o, s.heap.get? b = some o → h'.get? b = some o) → M ∈ ns → (∀ a, a ∈ ns → a ≤ M) → Q (.int M t') { s with heap := h', toks := tk }) : wpAny (model prog w) A (call (.builtin "max") [.ref l]) Q E s := by
  obtain ⟨xs, e⟩ := hi.allInts.items
  have hn : numsOf (intItems xs).toList = ns := by rw [← e, hi.numsOf]
  rw [nums_intItems] at hn
  subst hn
  rw [e] at hl
  have hsz : 0 < xs.size := by simpa using hne
  have hlt : l < s.heap.objs.size := by
    obtain ⟨o, ho, _⟩ := hl
    exact Heap.lt_size ho
  refine call_max_walk (wpAny_pyIter_tuple hl ?_)
  refine ⟨_, [_, l], [_], _, _, _, _, rfl, Walks.tuple (A := A.in1) hh _ l (Nat.ne_of_lt hlt) (intItems xs), ⟨⟨_, Heap.get?_push_size _ rfl, rfl, rfl⟩, hl.push _⟩, fun c hc => ?_, by simpa [intItems] using hsz, CmpOf.ints_gt (numAt xs) (fun _ _ => intItems_at), fun v h' tk hP hk => ?_⟩
  · show c < (s.heap.push _).objs.size
    rw [Heap.size_push]
    rcases List.mem_cons.mp hc with rfl | hc
    · exact Nat.lt_succ_self _
    · rcases List.mem_cons.mp hc with rfl | hc
      · exact Nat.lt_succ_of_lt hlt
      · cases hc
  · have hz : (intItems xs).size = xs.size := by simp [intItems]
    rw [hz] at hP
    obtain ⟨t, rfl⟩ := intItems_at hP
    obtain ⟨h1, h2⟩ := argBest_gt (numAt xs) (xs.size - 1)
    refine h h' tk _ t (fun b o e => hk b o (fun hm => ?_) (Heap.get?_push_of_some _ e)) ?_ fun a ha => ?_
    · rcases List.mem_cons.mp hm with e1 | hm
      · have := Heap.lt_size e; rw [e1] at this; exact Nat.lt_irrefl _ this
      · cases hm
    · rw [numAt_eq]; exact PySem.getD_mem (by rw [List.length_map, Array.length_toList]; omega)
    · obtain ⟨j, hj, rfl⟩ := mem_getD ha
      rw [List.length_map, Array.length_toList] at hj
      rw [← numAt_eq]; exact h2 j (by omega)
end
def rMaxT (K : PySem.W.Frag) : List V → Hp → VK → Prop := fun vs H Q => ∃ (a : Addr) (ns : List Int), vs = [V.ref a] ∧ SqT K H a (ns.map V.int) ∧ 0 < ns.length ∧ ∀ m, m ∈ ns → (∀ y, y ∈ ns → y ≤ m) → Q (.int m) H
theorem cr_maxT {X : Cx} (hc : X.calm = true) : CallR X (.builtin "max") (rMaxT X.K) := by
  intro pins s σ H vs us Q I r h
  obtain ⟨a, ns, rfl, hs, hne, q⟩ := h
  obtain ⟨its, rv, hl, _⟩ := I.tuple hs
  rw [Vals.ref1 r]
  exact max_tup (I.ok.hd hc) hl rv.ints hne fun h' tk m t' hk h1 h2 => ⟨.int _, H, I.kept hk, ⟨_, rfl⟩, q m h1 h2⟩
def maxTD : List D → Option D
  | [.tuple xs] => (intsD xs).bind fun ns => if ns = [] then none else some (.int (maxI ns))
  | _ => none
def max3D : List D → Option D
  | [.int i, .int j, .int k] => some (.int (if k > (if j > i then j else i) then k else (if j > i then j else i)))
  | _ => none
section
variable {X : Cx} {p pos : Pos} {e : Expr} {es : List Expr} {fa : Fa}
theorem one_tup {E : Ev} {A : Addr → Prop} {H : Hp} {xs : List V} {ds : List D} (r : Reps E A H xs [.tuple ds]) : ∃ a vs, xs = [.ref a] ∧ TupAt E.K A H a vs ∧ Reps E A H vs ds := by
  cases r with
  | cons r t =>
    cases t
    cases r with
    | tup h r => exact ⟨_, _, rfl, h, r⟩
theorem ve_maxT (hc : X.calm = true) (hg : Gl X "max") (hm : X.mg "max" = none) (ha : VA X (e :: es) fa) (hv : bootBuiltins "max" = some (.builtin "max") := by decide +kernel) (ns : NS X e es pos := by exact ⟨rfl, rfl⟩) : VE X (.Call (.Name "max" p) (e :: es) [] pos) (eCall maxTD fa) := by
  refine ve_callB (cr_maxT hc) (SndCS.c ?_) hg hm hv ha (ns := ns)
  intro A H xs ds d rx e Q hq
  unfold maxTD at e
  split at e
  · rename_i ys
    simp only [Option.bind_eq_some_iff] at e
    obtain ⟨ns, h1, h2⟩ := e
    split at h2
    · cases h2
    · rename_i hne
      cases h2
      obtain ⟨a, vs, rfl, e1, r1⟩ := one_tup rx
      rw [intsD_eq h1] at r1
      rw [r1.ints] at e1
      refine ⟨a, ns, rfl, e1.sqt, List.length_pos_iff.mpr hne, fun m hm hle => ?_⟩
      have q := maxI_is hne
      have e2 : m = maxI ns := Int.le_antisymm (q.2 m hm) (hle _ q.1)
      rw [e2]
      exact hq _ fun _ _ => .int _
  · cases e
theorem three_of {E : Ev} {A : Addr → Prop} {H : Hp} {xs : List V} {i j k : Int} (r : Reps E A H xs [.int i, .int j, .int k]) : xs = [.int i, .int j, .int k] := by
  cases r with
  | cons r1 t =>
    cases t with
    | cons r2 t =>
      cases t with
      | cons r3 t =>
        cases t
        cases r1
        cases r2
        cases r3
        rfl
theorem nu3 (i j k : Int) : nuMax3 (.int i) (.int j) (.int k) = some (.int (if k > (if j > i then j else i) then k else (if j > i then j else i))) := by
  have h2 : ∀ a c : Int, nuMax2 (.int a) (.int c) = some (.int (if c > a then c else a)) := fun a c => by
    show some (if decide (a < c) = true then V.int c else V.int a) = _
    by_cases h : a < c
    · rw [if_pos (decide_eq_true h), if_pos h]
    · rw [if_neg (by simpa using h), if_neg h]
  unfold nuMax3
  rw [h2, Option.bind_some, h2]
theorem ve_max3 (hc : X.calm = true) (hg : Gl X "max") (hm : X.mg "max" = none) (ha : VA X (e :: es) fa) (hv : bootBuiltins "max" = some (.builtin "max") := by decide +kernel) (ns : NS X e es pos := by exact ⟨rfl, rfl⟩) : VE X (.Call (.Name "max" p) (e :: es) [] pos) (eCall max3D fa) := by
  refine ve_callB (call_max3Nu hc) (SndCS.c ?_) hg hm hv ha (ns := ns)
  intro A H xs ds d rx e Q hq
  unfold max3D at e
  split at e
  · cases e
    rw [three_of rx]
    exact ⟨_, _, _, _, rfl, nu3 _ _ _, hq _ fun _ _ => .int _⟩
  · cases e
end
end Fx
-- Fx25
namespace Fx
open PySem PySem.Spec PyProof.Rows L2
/-! ### {x: c} whose key is a tuple; xs.index(n) -/
def tDisp1 (E : Ev) (tk tv : TE) : TE := fun σ H Q => ∀ p, H p = none → tk σ (upd H p (.dT [])) fun y H1 => tv σ H1 fun z H2 => H2 p = some (.dT []) ∧ ((∃ (b : Addr) (ks : List Key), y = .ref b ∧ H2 b = some (.tup (ks.map kV)) ∧ Q (.ref p) (upd H2 p (.dT [(ks, z)]))) ∨
  ∃ (b : Addr) (k : NestedKey), y = .ref b ∧ NK H2 k (.ref b) ∧ k.depth ≤ 8 ∧ Q (.ref p) (upd H2 p (.ext (NX E p [(k, b, z)]))))
section
variable {X : Cx} {k v : Expr} {tk tv : TE} {pos : Pos}
theorem pe_disp1 (hu : X.A.units + 65 < cLine) (hk : PE X k tk) (hv : PE X v tv) : PE X (.Dict [some k] [v] pos) (tDisp1 (evX X) tk tv) := by
  refine ⟨fun pins s σ H Q I q => ?_⟩
  have hn := I.hok.fresh (Nat.le_refl s.heap.objs.size)
  have I1 := I.laid (a := s.heap.objs.size) (o := .dT []) (h' := s.heap.push { cls := .type "dict", data := .dict #[] }) (t' := s.toks) (fun _ _ q => Heap.get?_push_of_some _ q) (Nat.le_refl _) (dt_empty s.heap I.big)
  have sh : (evalEachOpt [some k] X.env).zip ((evalEach [v] X.env).map fun v => do let x ← v; standAt pos; pure x) = [(eval k X.env, do let x ← eval v X.env; standAt pos; pure x)].map fun p => (some p.1, p.2) := rfl
  rw [arm_eval_Dict, sh, dictDisplay_pairs _ (by simp) (by simp)]
  refine wpAny_bind (wpAny_standAt (wpAny_bind ?_))
  unfold subDict
  refine wpAny_bind (wpAny_alloc (wpAny_bind (wpAny_holding ?_)))
  rw [if_pos (by simp)]
  refine wpAny_bind (evalPairs_cons (thn (hk.run pins _ σ _ _ I1 (q _ hn)) fun u s2 ⟨y, H1, I2, ry, q1⟩ => wpAny_bind (thn (hv.run pins s2 σ H1 _ I2 q1) fun r s3 ⟨z, H2, I3, rz, q2⟩ => wpAny_bind (wpAny_standAt (wpAny_pure (evalPairs_nil ?_))))))
  obtain ⟨e, ⟨b, ks, rfl, eb, q3⟩ | ⟨b, kn, rfl, nk, dp, q3⟩⟩ := q2
  rotate_left
  · cases (show u = Value.ref b from ry)
    refine wpAny_holding ?_
    rw [List.forIn_cons]
    obtain ⟨_, hd, xs, rel, o0, es0, ep0, g1, g2, g3, g4, _, g5⟩ := dt_of I3.hok e
    cases rel
    have dd : s3.heap.DictOfH (nestedKind X.prog X.w) s.heap.objs.size [] := ⟨o0, es0, ep0, g1, g2, g3, g4, (fun _ z => nomatch z), List.nodup_nil⟩
    refine wpAny_bind (wpAny_bind (wpAny_bind (wpAny_dictSet_heap (hsz := Nat.zero_le _) (show (nestedKind X.prog X.w).room X.A from by show X.A.units + 8 < cLine; omega) (nk_is I3.hok nk dp) dd fun h' dd' hs => wpAny_pure ?_)))
    dsimp only
    rw [List.forIn_nil]
    refine wpAny_pure (wpAny_pure (wpAny_pure (wpAny_pure ⟨.ref s.heap.objs.size, _, ?_, rfl, q3⟩)))
    obtain ⟨oq, es, ep, hq, h2, h3, h4, _, h5⟩ := dd'
    exact d_write I3 (by rw [e]; exact True.intro) hs ⟨oq, hq⟩ (NX.ok (E := evX X) ⟨_, .cons ⟨rfl, rfl, rz⟩ .nil, hd, by rw [sizeLine_eq]; simp, oq, es, ep, hq, h2, h3, h4, h5⟩)
  cases (show u = Value.ref b from ry)
  refine wpAny_holding ?_
  rw [List.forIn_cons]
  obtain ⟨_, hd, xs, rel, dd⟩ := dt_of I3.hok e
  cases rel
  refine wpAny_bind (wpAny_bind (wpAny_bind (wpAny_dictSet_heap (hsz := Nat.zero_le _) (show (tupleKind (mixKind X.prog X.w)).room X.A from (by show X.A.units < cLine; omega)) (key_of I3.hok eb) dd fun h' dd' hs => wpAny_pure ?_)))
  dsimp only
  rw [List.forIn_nil]
  refine wpAny_pure (wpAny_pure (wpAny_pure (wpAny_pure ⟨.ref s.heap.objs.size, _, ?_, rfl, q3⟩)))
  obtain ⟨oq, es, ep, hq, h2, h3, h4, _, h5⟩ := dd'
  refine d_write I3 (by rw [e]; exact True.intro) hs ⟨oq, hq⟩ ⟨by rw [sizeLine_eq]; simp, hd, _, .cons ⟨rfl, ?_, rz⟩ .nil, oq, es, ep, hq, h2, h3, h4, h5⟩
  rw [upd_ne (ne_of eb e (fun z => nomatch z))]
  exact eb
end
def eDisp1 (i : Nat) (c : D) : Fe := fun s => match s.rho[i]? with
  | some (.val d) => match keyY d with
    | some (.t ks) => some (.dict [(.tuple (ks.map keyD), c)], s)
    | some (.n k) => some (.dict [(k.data, c)], s)
    | _ => none
  | _ => none
def idxD : D → D → Option D
  | .list ds, .int n => (intsD ds).bind fun ns => if n ∈ ns then some (.int (ns.idxOf n : Nat)) else none
  | _, _ => none
section
variable {X : Cx} {x : Str} {i : Nat} {v o e : Expr} {p' pos apos cpos : Pos} {f1 f2 : Fe}
theorem vf_disp1 (i : Nat) (nv : NV X i x) (hu : X.A.units + 65 < cLine) {w : V} {c : D} (hv : PE X v (tC w)) (hc : ∀ B H', Rep (evX X) B H' w c) : VF X (.Dict [some (.Name x p')] [v] pos) (eDisp1 i c) := by
  refine ⟨_, pe_disp1 hu (pe_var nv.hN nv.hv nv.hd nv.hcd) hv, fun G W σ H s d s' R hf Q hq => ?_⟩
  unfold eDisp1 at hf
  split at hf
  · rename_i d0 e0
    split at hf
    · rename_i ks e1
      cases hf
      intro p hn
      obtain ⟨u, e2, r⟩ := R.val i d0 e0
      obtain ⟨b, rfl, eb, hne⟩ := r.keyT e1
      refine ⟨_, e2, upd_same, .inl ⟨b, ks, rfl, by rw [upd_ne (ne_of_none eb hn)]; exact eb, ?_⟩⟩
      rw [upd_upd]
      exact hq p _ hn (R.laid hn) (Fz.laid hn G W) (.inl ⟨_, upd_same, .cons hne (hc _ _) .nil⟩)
    · rename_i k e1
      cases hf
      intro p hn
      obtain ⟨u, e2, r⟩ := R.val i d0 e0
      obtain ⟨b, rfl, nk, h1, h2, dp⟩ := r.keyN e1
      have r2 : Rep (evX X) (Av G W) (upd H p (.dT [])) (.ref b) d0 := r.fz (fun a o n e => ⟨n, by rw [upd_ne (ne_of_none e hn)]; exact e⟩)
      refine ⟨_, e2, upd_same, .inr ⟨b, k, rfl, r2.nk h1, dp, ?_⟩⟩
      rw [upd_upd]
      refine hq p _ hn (R.laid hn) (Fz.laid hn G W) (.inr (.inr ⟨_, upd_same, ?_, by simp⟩))
      rw [nk_data _ _ h1]
      exact .cons h1 h2 dp (r.fz (Fz.laid hn G W)) (hc _ _) .nil
    · cases hf
  · cases hf
theorem ve_index (ho : VE X o f1) (he : VE X e f2) (nm : NM X o "index" e [] apos cpos) : VE X (.Call (.Attribute o "index" apos) [e] [] cpos) (eBin idxD f1 f2) := by
  obtain ⟨ta, pa, sa⟩ := ho.ex
  obtain ⟨tb, pb, sb⟩ := he.ex
  refine ⟨_, pe_bm PySem.F.plainAttrs_list PySem.F.slot_list_index PySem.F.type_list_index mt_index pa (pa_cons pb pa_nil nm.hs) nm.hbase nm.hfew nm.hline nm.hs nm.hplain, ?_⟩
  intro G W σ H s d s' R hf Q hq
  obtain ⟨x, s1, y, h1, h2, h3⟩ := eBin_some hf
  unfold idxD at h3
  split at h3
  · rename_i ds n
    simp only [Option.bind_eq_some_iff] at h3
    obtain ⟨ns, h4, h5⟩ := h3
    split at h5
    · rename_i hm
      cases h5
      refine sa G W σ H s _ s1 R h1 _ fun v1 H1 R1 z1 p1 => ?_
      cases p1 with
      | lst n1 e1 r1 =>
        rename_i a xs
        refine ⟨.inl ⟨rfl, _, SqL.of e1⟩, sb G W σ H1 s1 _ s' R1 h2 _ fun v2 H2 R2 z2 p2 => ?_⟩
        cases p2
        have e2 := (z2 _ _ n1 e1).2
        rw [intsD_eq h4] at r1
        have ex := r1.ints
        subst ex
        have hi : ns.idxOf n < ns.length := List.idxOf_lt_length_of_mem hm
        refine ⟨a, ns.map V.int, .int n, ns.idxOf n, .int n, rfl, rfl, SqL.of e2, rfl, ?_, ?_, ?_, fun m z' hlt hz => ?_, hq _ H2 R2 (z1.trans z2) (.int _)⟩
        · rw [List.all_map, List.all_eq_true]
          exact fun _ _ => rfl
        · rw [List.getElem?_map, List.getElem?_eq_getElem hi, List.getElem_idxOf]
          rfl
        · show (n == n) = true
          simp
        · have hm' : m < ns.length := by omega
          rw [List.getElem?_map, List.getElem?_eq_getElem hm', Option.map_some] at hz
          cases hz
          show (ns[m] == n) = false
          have := List.not_of_lt_findIdx (p := (· == n)) (xs := ns) (i := m) hlt
          simpa using this
    · cases h5
  · cases h3
end
end Fx
-- Fx26
namespace Fx
open PySem PySem.Spec PyProof.Rows L2
/-! ### {e: c} whose key is any expression that gives a tuple -/
def NoRaw (o : HO) : Prop := ∀ xs, o ≠ .dT xs
section
variable {E : Ev} {A B : Addr → Prop} {H H' : Hp}
/-- as Fz, but for raw dicts -/
def Fy (A B : Addr → Prop) (H H' : Hp) : Prop := ∀ a o, ¬ A a → H a = some o → NoRaw o → ¬ B a ∧ H' a = some o
theorem TupAt.fy {K : PySem.W.Frag} {a : Addr} {xs : List V} (f : Fy A B H H') (h : TupAt K A H a xs) : TupAt K B H' a xs := by
  rcases h with h | h
  · exact .inl (f _ _ h.1 h.2 fun _ z => nomatch z)
  · exact .inr h
mutual
theorem Rep.fy (f : Fy A B H H') : ∀ {v : V} {d : D}, Rep E A H v d → Rep E B H' v d
  | _, _, .non => .non
  | _, _, .bl b => .bl b
  | _, _, .int i => .int i
  | _, _, .str x => .str x
  | _, _, .tup h r => .tup (TupAt.fy f h) (Reps.fy f r)
  | _, _, .lst h e r => .lst (f _ _ h e (fun _ z => nomatch z)).1 (f _ _ h e (fun _ z => nomatch z)).2 (Reps.fy f r)
  | _, _, .dt h e r => .dt (f _ _ h e (fun _ z => nomatch z)).1 (f _ _ h e (fun _ z => nomatch z)).2 (EntsT.fy f r)
  | _, _, .dk h e r n => .dk (f _ _ h e (fun _ z => nomatch z)).1 (f _ _ h e (fun _ z => nomatch z)).2 (EntsK.fy f r) n
  | _, _, .dx h e r n => .dx (f _ _ h e (fun _ z => nomatch z)).1 (f _ _ h e (fun _ z => nomatch z)).2 (EntsX.fy f r) n
theorem Reps.fy (f : Fy A B H H') : ∀ {vs : List V} {ds : List D}, Reps E A H vs ds → Reps E B H' vs ds
  | _, _, .nil => .nil
  | _, _, .cons r t => .cons (Rep.fy f r) (Reps.fy f t)
theorem EntsT.fy (f : Fy A B H H') : ∀ {xs : List (List Key × V)} {kvs : List (D × D)}, EntsT E A H xs kvs → EntsT E B H' xs kvs
  | _, _, .nil => .nil
  | _, _, .cons n r t => .cons n (Rep.fy f r) (EntsT.fy f t)
theorem EntsK.fy (f : Fy A B H H') : ∀ {xs : List (Key × V)} {kvs : List (D × D)}, EntsK E A H xs kvs → EntsK E B H' xs kvs
  | _, _, .nil => .nil
  | _, _, .cons r t => .cons (Rep.fy f r) (EntsK.fy f t)
theorem EntsX.fy (f : Fy A B H H') : ∀ {xs : List EX} {kvs : List (D × D)}, EntsX E A H xs kvs → EntsX E B H' xs kvs
  | _, _, .nil => .nil
  | _, _, .cons n i l q r t => .cons n i l (Rep.fy f q) (Rep.fy f r) (EntsX.fy f t)
end
theorem Top.fy {a : Addr} {d : D} (f : Fy A B H H') (e : ∀ o, H a = some o → H' a = some o) (t : Top E A H a d) : Top E B H' a d := by
  cases d with
  | list ds => obtain ⟨xs, h, r⟩ := t; exact ⟨xs, e _ h, r.fy f⟩
  | dict kvs =>
    rcases t with ⟨xs, h, r⟩ | ⟨xs, h, r, z⟩ | ⟨xs, h, r, z⟩
    · exact .inl ⟨xs, e _ h, r.fy f⟩
    · exact .inr (.inl ⟨xs, e _ h, r.fy f, z⟩)
    · exact .inr (.inr ⟨xs, e _ h, r.fy f, z⟩)
  | _ => exact t
theorem PlanAt.same2 {E : Ev} {A B : Addr → Prop} {H H' : Hp} {q : Addr × Addr} {d : D} (p : PlanAt E A H q d) (f : Fy A B H H') (k : ∀ a o, (a = q.1 ∨ a = q.2) → H a = some o → H' a = some o) : PlanAt E B H' q d := by
  obtain ⟨C, dx, vp, vl, vc, vt, xs, p, l, c, t, ps, e, hc, h1, h2, r1, r2, r3, r4, r5⟩ := p
  exact ⟨C, dx, vp, vl, vc, vt, xs, p, l, c, t, ps, e, hc, k _ _ (.inl rfl) h1, k _ _ (.inr rfl) h2, r1.fy f, r2.fy f, r3.fy f, r4.fy f, r5.fy f⟩
/-- a raw dict that nothing speaks of is barred, and changed -/
theorem Rel.barD {G : Cfg} {W : Wt} {σ : L2.St} {s : S} {p : Addr} {xs : List (List Key × V)} {o : HO} (r : Rel E G W H σ s) (na : ¬ Av G W p) (h0 : G.H0 p = none) (hp : H p = some (.dT xs)) (hnt : NT o) : Rel E (G.bar p) W (upd H p o) σ s := by
  have k : ∀ a u, a ≠ p → H a = some u → (upd H p o) a = some u := fun a u n e => by rw [upd_ne n]; exact e
  have f : Fy (Av G W) (Av (G.bar p) W) H (upd H p o) := fun a u n e nr => by
    have ne : a ≠ p := fun z => by subst z; rw [hp] at e; cases e; exact nr xs rfl
    exact ⟨fun
      | .inl (.inl z) => n (.inl z)
      | .inl (.inr z) => ne z
      | .inr z => n (.inr z), k a u ne e⟩
  exact {
    len := r.len
    fr := fun a u e t => k a u (fun z => by subst z; have e2 : G.H0 a = some u := e; rw [h0] at e2; cases e2) (r.fr a u e t)
    val := fun i d e => let ⟨v, e1, q⟩ := r.val i d e; ⟨v, e1, q.fy f⟩
    own := fun i d e => let ⟨a, e1, e2, q⟩ := r.own i d e; ⟨a, e1, e2, q.fy f fun u => k a u fun z => by subst z; exact na (.inr (.inl ⟨i, e1⟩))⟩
    dom := fun i a e => by
      obtain ⟨h1, h2, h3, h4⟩ := r.dom i a e
      refine ⟨h1, h2, ?_, h4⟩
      rintro (z | z)
      · exact h3 z
      · subst z; exact na (.inr (.inl ⟨i, e⟩))
    inj := r.inj
    obj := fun a => fun
      | .inl z => let ⟨u, e, q⟩ := r.obj a z; ⟨u, k a u (fun y => by subst y; exact na (.inl z)) e, q⟩
      | .inr z => ⟨o, by rw [z]; exact upd_same, hnt⟩
    tow := r.tow.same fun a u t => k a u fun z => by subst z; exact na (.inr (.inr t))
    tnc := r.tnc
    rwc := r.rwc
    noc := r.noc
    ptc := r.ptc
    pl := r.pl.same fun a u t => k a u fun z => by subst z; exact na (.inr (.inr t))
    plc := fun i d h => by
      obtain ⟨q, e1, e2, e3⟩ := r.plc i d h
      exact ⟨q, e1, e2, e3.same2 f fun a u t => k a u fun z => by subst z; exact na (.inr (.inr (.inr ⟨i, q, e1, t⟩)))⟩ }
end
def eDisp (f : Fe) (c : D) : Fe := fun s => (f s).bind fun (d, s1) => match keyY d with
  | some (.t ks) => some (.dict [(.tuple (ks.map keyD), c)], s1)
  | some (.n k) => some (.dict [(k.data, c)], s1)
  | _ => none
theorem vf_disp {X : Cx} {k v : Expr} {pos : Pos} {f : Fe} (hk : VE X k f) (hu : X.A.units + 65 < cLine) {w : V} {c : D} (hv : PE X v (tC w)) (hc : ∀ B H', Rep (evX X) B H' w c) : VF X (.Dict [some k] [v] pos) (eDisp f c) := by
  obtain ⟨t, pk, sk⟩ := hk.ex
  refine ⟨_, pe_disp1 hu pk hv, fun G W σ H s d s' R hf Q hq => ?_⟩
  unfold eDisp at hf
  rw [Option.bind_eq_some_iff] at hf
  obtain ⟨⟨d0, s1⟩, e0, hf⟩ := hf
  dsimp only at hf
  split at hf
  · rename_i ks e1
    cases hf
    intro p hn
    have ks0 : ∀ b o, H b = some o → (upd H p (.dT [])) b = some o := fun b o e => by rw [upd_ne (ne_of_none e hn)]; exact e
    have na : ¬ Av G W p := R.free hn
    refine sk G W σ (upd H p (.dT [])) s d0 _ (R.keeps ks0) e0 _ fun y H1 R1 z1 p1 => ?_
    have hp := (z1 p _ na upd_same).2
    obtain ⟨b, rfl, eb, hne⟩ := p1.keyT e1
    refine ⟨hp, .inl ⟨b, ks, rfl, eb, ?_⟩⟩
    have nt : NT (.dT [(ks, w)]) := fun _ z => nomatch z
    refine hq p _ hn (R1.barD na (R.fresh0 hn) hp nt) (fun a o n e => ?_) (.inl ⟨_, upd_same, .cons hne (hc _ _) .nil⟩)
    have ne : a ≠ p := ne_of_none e hn
    obtain ⟨n2, e2⟩ := z1 a o n (ks0 a o e)
    exact ⟨fun
      | .inl (.inl z) => n (.inl z)
      | .inl (.inr z) => ne z
      | .inr z => n (.inr z), by rw [upd_ne ne]; exact e2⟩
  · rename_i kn e1
    cases hf
    intro p hn
    have ks0 : ∀ b o, H b = some o → (upd H p (.dT [])) b = some o := fun b o e => by rw [upd_ne (ne_of_none e hn)]; exact e
    have na : ¬ Av G W p := R.free hn
    refine sk G W σ (upd H p (.dT [])) s d0 _ (R.keeps ks0) e0 _ fun y H1 R1 z1 p1 => ?_
    have hp := (z1 p _ na upd_same).2
    obtain ⟨b, rfl, nk, h1, h2, dp⟩ := p1.keyN e1
    refine ⟨hp, .inr ⟨b, kn, rfl, nk, dp, ?_⟩⟩
    have nt : NT (.ext (NX (evX X) p [(kn, b, w)])) := fun _ z => nomatch z
    have fy : Fy (Av G W) (Av (G.bar p) W) H1 (upd H1 p (.ext (NX (evX X) p [(kn, b, w)]))) := fun a u n e nr => by
      have ne : a ≠ p := fun z => by subst z; rw [hp] at e; cases e; exact nr _ rfl
      exact ⟨fun
        | .inl (.inl z) => n (.inl z)
        | .inl (.inr z) => ne z
        | .inr z => n (.inr z), by rw [upd_ne ne]; exact e⟩
    refine hq p _ hn (R1.barD na (R.fresh0 hn) hp nt) (fun a o n e => ?_) (.inr (.inr ⟨_, upd_same, ?_, by simp⟩))
    · have ne : a ≠ p := ne_of_none e hn
      obtain ⟨n2, e2⟩ := z1 a o n (ks0 a o e)
      exact ⟨fun
        | .inl (.inl z) => n (.inl z)
        | .inl (.inr z) => ne z
        | .inr z => n (.inr z), by rw [upd_ne ne]; exact e2⟩
    · rw [nk_data _ _ h1]
      exact .cons h1 h2 dp (p1.fy fy) (hc _ _) .nil
  · cases hf
end Fx
-- Fset3
namespace Fx
open PySem PySem.Spec PyProof.Rows L2
/-! ### sorted({..}), a set comprehension of ints -/
def SetIO (w : World) (a : Addr) (S : Int → Bool) (n : Nat) : HO := .ext fun h => SetR w h a S n
theorem setIO_new {w : World} {P : Program} {H : Hp} {h : Heap} {a : Addr} {S : Int → Bool} {n : Nat} (R : SetR w h a S n) : ObjOk P w H h a (SetIO w a S n) := by
  have ⟨o, _, _, _, ho, _⟩ := R
  exact ⟨R, ⟨o, ho⟩, fun h1 h2 p k => SetR.at p k⟩
theorem setIO_get {X : Cx} {pins : List (Addr × Obj)} {σ : L2.St} {H : Hp} {s : Shared} {a : Addr} {S : Int → Bool} {n : Nat} (I : Inv X pins σ H s) (ha : H a = some (SetIO X.w a S n)) : SetR X.w s.heap a S n := (I.hok a _ ha).1
theorem addI_ok {X : Cx} {pins : List (Addr × Obj)} {σ : L2.St} {H : Hp} {s : Shared} {E : Value → Shared → Prop} {D : Addr} {S : Int → Bool} {n : Nat} {y : Int} {tk : Tok} {Q : Value → Shared → Prop} (I : Inv X pins σ H s) (hD : H D = some (SetIO X.w D S n)) (room : n + 1 < scanBound)
    (h : ∀ s', Inv X pins σ (upd H D (SetIO X.w D (fun j => S j || decide (j = y)) (if S y = true then n else n + 1))) s' → Q .none s') : wpAny (model X.prog X.w) X.A (call (.builtin "set.add") [.ref D, .int y tk]) Q E s := by
  have R := setIO_get I hD
  refine setR_add R room fun h' sb new => ?_
  have he : ∃ u, h'.get? D = some u := by
    have ⟨o, _, _, _, ho, _⟩ := new
    exact ⟨o, ho⟩
  exact h _ (I.write (e := D) (t' := s.toks + 1) (by rw [hD]; trivial) (.inl rfl) (fun b u hb hu => (sb.2 b hb).trans hu) he (setIO_new new))
theorem pl_emitS {Y : Cx} {e : Expr} {gens : List Comprehension} {d : Nat} {elt : Expr} {te : TE} {D : Addr} (hx : Y.xe = FF) (hd : gens[d]? = none) (he : PE Y elt te) : PL Y e gens (emitS elt) (.ref D) d (fun σ H Nx => te σ H fun y H1 => ∃ k S n, y = .int k ∧ H1 D = some (SetIO Y.w D S n) ∧ n + 1 < scanBound ∧ Nx (upd H1 D (SetIO Y.w D (fun j => S j || decide (j = k)) (if S k = true then n else n + 1)))) := by
  intro pins s σ H Nx k Q I h hk
  unfold innerC emitS
  rw [hd]
  have h2 := he.run pins s σ H _ I h
  rw [hx] at h2
  refine wpAny_bind (wpAny_bind (thn h2 fun v s1 ⟨y, H1, I1, r1, k', S, n, ey, hD, hz, nx⟩ => ?_))
  subst ey
  obtain ⟨tk, rfl⟩ := r1
  exact wpAny_bind (wpAny_standAt (wpAny_bind (addI_ok I1 hD hz fun s2 I2 => wpAny_pure (hk s2 _ I2 nx))))
def tCompS (w : World) (wi : TI) (g : Blk → TG) (tt : Blk → TT) (t : Blk → Addr → L2.St → Hp → (Hp → Prop) → Prop) (vs : List Nat) : TE := fun σ H Q => wi σ H fun J H1 => ∀ p, H1 p = none → ∀ b, tTurns J (g b) (tt b) (t b p) vs σ (upd H1 p (SetIO w p (fun _ => false) 0)) (fun H' => Q (.ref p) H')
theorem comp_coreS {X : Cx} {pins : List (Addr × Obj)} {s : Shared} {σ : L2.St} {H : Hp} {Q : VK} {e tg iter : Expr} {ifs : List Expr} {rest : List Comprehension} {emit : Value → Env → Sem Unit} {scope : Scope} {own : List (Str × Nat)} {pos' : Pos} {wi : TI} {g : Blk → TG} {tt : Blk → TT} {t : Blk → Addr → L2.St → Hp → (Hp → Prop) → Prop} {use : Option (Value → Sem Unit)} {Qf : Value → Shared → Prop}
    (c : CmpK e (⟨tg, iter, ifs, 0⟩ :: rest) emit) (hc : X.calm = true) (hN : X.N.Nodup) (I : Inv X pins σ H s) (hi : PI X tg iter wi) (ok : BlkOk X.N X.env.scope scope own)
    (hg : AtBlk X scope fun b Y => PG Y tg (g b)) (ht : AtBlk X scope fun b Y => PTs Y ifs (tt b)) (hr : AtBlk X scope fun b Y => ∀ p, PL Y e (⟨tg, iter, ifs, 0⟩ :: rest) emit (.ref p) 1 (t b p)) (hs : ∀ x, foldedSetIterable iter X.env x = pure x)
    (h : tCompS X.w wi g tt t (own.map (·.2)) σ H Q)
    (hRR : ∀ p C s' m H', Inv X pins σ H' s' → Q (.ref p) H' → s'.heap.Ns C m → FpOk X pins H' C → compPost (model X.prog X.w) X.A X.xe use Qf (.ref p) C (.ok .next) s') :
    wpAny (model X.prog X.w) X.A (comprehension e scope X.env pos' (newSet (.type "set")) false (eval iter X.env) use) Qf X.xe s := by
  have captured : ∀ y ∈ scope.names, y.2 = .free → ∃ k, X.env.cells.lookup y.1 = some k := fun y hy q =>
    (ok.free y hy q).elim (fun z => I.ok.has _ (.inl z)) fun z => I.ok.has _ (.inr z)
  refine wpAny_comprehension_free (use := use) c.cl hs (closure_ok captured) ok.kind (fun y hy q => by rw [ok.uniq y hy, q]) (thn (hi.run pins s σ H _ I h) fun _ s1 h1 => thn h1 fun itv s2 h2 => ?_)
  obtain ⟨it, fp, tn, J, H2, e2, I2, T, st2, f2, q⟩ := h2
  subst e2
  refine PpSet.newSet_ok (newEnv_comp ?_)
  generalize hp : s2.heap.objs.size = p
  have fresh : H2 p = none := I2.hok.fresh (Nat.le_of_eq hp)
  generalize hs3 : ({ s2 with heap := s2.heap.push { cls := .type "set", dict := none, data := .set #[] 0 (.fresh 0 0 (!X.w.params.followText "set-order")) } } : Shared) = s3
  have heap3 : s3.heap = s2.heap.push { cls := .type "set", dict := none, data := .set #[] 0 (.fresh 0 0 (!X.w.params.followText "set-order")) } := by rw [← hs3]
  have at3 : s3.heap.get? p = some { cls := .type "set", dict := none, data := .set #[] 0 (.fresh 0 0 (!X.w.params.followText "set-order")) } := by rw [heap3, ← hp]; exact Heap.get?_push_size _ rfl
  have I3 : Inv X pins σ (upd H2 p (SetIO X.w p (fun _ => false) 0)) s3 := by
    rw [← hs3]
    exact I2.laid (t' := s2.toks) (fun _ _ => Heap.get?_push_of_some _) (Nat.le_of_eq hp) (setIO_new (by rw [← hp]; exact setR_fresh X.w))
  have below : ∀ b ∈ fp, b < s2.heap.objs.size := fun b hb => let ⟨_, q, _⟩ := T.obj _ _ st2 b hb; Heap.lt_size q
  have f3 : ∀ b ∈ fp, FpOk X pins (upd H2 p (SetIO X.w p (fun _ => false) 0)) b ∧ b < s3.heap.objs.size := fun b hb =>
    ⟨⟨by rw [upd_ne (by rw [← hp]; exact Nat.ne_of_lt (below b hb))]; exact (f2 b hb).1, (f2 b hb).2⟩, by rw [heap3, Heap.size_push]; exact Nat.lt_succ_of_lt (below b hb)⟩
  have st3 : tn 0 s3.heap := T.keep _ _ _ st2 fun b _ o q => by rw [heap3]; exact Heap.get?_push_of_some _ q
  have I4 := block_start I3 ok hN f3
  generalize hb : (⟨s3, upd H2 p (SetIO X.w p (fun _ => false) 0), s3.heap.objs.size, cellsFrom (s3.heap.objs.size + 1) scope.names (cloFrom X.env.cells scope.names []), fp⟩ : Blk) = blk
  have pg := hg blk
  have pt := ht blk
  have pl := hr blk p
  obtain ⟨W, ⟨m0, w0⟩, turn⟩ := q p fresh blk
  have hblk : blkAt X scope blk = X.blk s3 (upd H2 p (SetIO X.w p (fun _ => false) 0)) scope (compEnvC scope (cellsFrom (s3.heap.objs.size + 1) scope.names (cloFrom X.env.cells scope.names [])) s3.heap.objs.size X.env) fp := by rw [← hb]
  rw [hblk] at pg pt pl
  show codeAny _ _ (.compStart e 0 (.ref it) (.ref p) (compEnvC scope (cellsFrom (s3.heap.objs.size + 1) scope.names (cloFrom X.env.cells scope.names [])) s3.heap.objs.size X.env)) _ { s3 with heap := pushCells (s3.heap.push { cls := .type "dict", data := .dict #[] }) scope.names }
  generalize hce : compEnvC scope (cellsFrom (s3.heap.objs.size + 1) scope.names (cloFrom X.env.cells scope.names [])) s3.heap.objs.size X.env = ce at I4 pg pt pl ⊢
  have here : ce.locals = s3.heap.objs.size := by rw [← hce]; rfl
  have nfp : ∀ b ∈ fp, (upd H2 p (SetIO X.w p (fun _ => false) 0)) b = none := fun b hb => (f3 b hb).1.1
  generalize hH3 : upd H2 p (SetIO X.w p (fun _ => false) 0) = H3 at I3 I4 pg pt pl w0 nfp f3
  generalize hs4 : ({ s3 with heap := pushCells (s3.heap.push { cls := .type "dict", data := .dict #[] }) scope.names } : Shared) = s4 at I4 ⊢
  generalize hY : X.blk s3 H3 scope ce fp = Y at I4 pg pt pl
  have yP : Y.prog = X.prog := by rw [← hY]
  have yw : Y.w = X.w := by rw [← hY]
  have yK : Y.K = X.K := by rw [← hY]
  have yA : Y.A = X.A := by rw [← hY]
  have yc : Y.calm = true := by rw [← hY]; exact hc
  have yx : Y.xe = FF := by rw [← hY]
  have ye : Y.env = ce := by rw [← hY]
  have st4 : tn 0 s4.heap := T.keep _ _ _ st3 fun b _ o q => by rw [← hs4]; exact pushCells_keeps _ _ _ _ (Heap.get?_push_of_some _ q)
  have stat : ∀ {σ' : L2.St} {H' : Hp} {s' : Shared}, Inv Y [] σ' H' s' → (∀ b ∈ fp, H' b = none) → ∀ b ∈ fp, FpOk Y [] H' b := fun {σ' H' s'} I' hn b hb => by
    have z := I'.ok
    have ex : b ∈ Y.ex := by rw [← hY]; exact hb
    have pn : Y.pn = [] := by rw [← hY]
    exact ⟨hn b hb, (z.exf b ex).1, z.exfs b ex, .inl ex, (z.exf b ex).2, fun q hq => by rw [pn] at hq; cases hq⟩
  have T' : Turn Y.prog Y.w Y.K tg J fp it tn := by rw [yP, yw, yK]; exact T
  have loop : codeAny (model Y.prog Y.w) Y.A (.compLoop e 0 (.ref it) (.ref p) Y.env) (compPost (model X.prog X.w) X.A X.xe use Qf (.ref p) s3.heap.objs.size) s4 := by
    refine cloop c rfl (fun n s' => ∃ i H', Inv Y [] (wipe σ (own.map (·.2))) H' s' ∧ tn i s'.heap ∧ (∀ b ∈ fp, H' b = none) ∧ W i n H') ?_ m0 ⟨0, H3, I4, st4, nfp, w0⟩
    rintro n s5 ⟨i, H5, I5, st5, n5, w5⟩
    rcases turn i n H5 w5 with ⟨stop, qq⟩ | ⟨go, Nx', hNx, step⟩
    · refine thn (T'.done Y rfl rfl rfl yc i [] s5 _ H5 FF I5 (stat I5 n5) st5 stop) fun r s6 ⟨hr', I6⟩ => ?_
      subst hr'
      have I6' : Inv (X.blk s3 H3 scope ce fp) [] (wipe σ (own.map (·.2))) H5 s6 := by rw [hY]; exact I6
      have I7 : Inv X pins σ H5 s6 := I3.call' (ch := fp) I6'.os I6'.base I6'.hok I6'.bare fun b hb => ⟨(f3 b hb).1.2.2.2.1, (f3 b hb).1.2.1, (f3 b hb).1.2.2.2.2.1, (f3 b hb).1.2.2.2.2.2⟩
      have nC : H5 s3.heap.objs.size = none := by rw [← here]; exact I6'.free
      obtain ⟨m, hn, _⟩ := I6'.loc
      exact hRR p s3.heap.objs.size s6 m H5 I7 qq (by rw [← here]; exact hn) (I3.fpOk (Nat.le_refl _) nC)
    · refine thn (T'.item Y rfl rfl rfl yc i [] s5 _ H5 FF I5 (stat I5 n5) st5 go) fun r s6 ⟨u, hr', h6⟩ => ?_
      subst hr'
      refine thn h6 fun _ s7 ⟨x, H7, I7, r7, y7, st7, n7⟩ => ?_
      have I7' := I7.pinned (stat I7 n7) (T.obj _ _ st7)
      have h8 := pg.run _ s7 _ H7 x u _ I7' r7 (step x H7 y7)
      rw [yx] at h8
      refine thn h8 fun _ s8 ⟨σ8, H8, I8, hw8, q8⟩ => ?_
      have h9 := pt.run _ s8 σ8 H8 _ I8 q8
      rw [yx] at h9
      refine thn h9 fun b s9 ⟨H9, I9, q9⟩ => ?_
      have fin : ∀ {s' : Shared} {H' : Hp}, Inv Y ([] ++ pinsAt fp s7.heap) σ8 H' s' → Nx' H' → ∃ m, m < n ∧ ∃ i H', Inv Y [] (wipe σ (own.map (·.2))) H' s' ∧ tn i s'.heap ∧ (∀ b ∈ fp, H' b = none) ∧ W i m H' := fun {s' H'} I' nx => by
        obtain ⟨m', hm, w'⟩ := hNx H' nx
        have pinned : ∀ b ∈ fp, ∀ o, s7.heap.get? b = some o → s'.heap.get? b = some o ∧ H' b = none := fun b hb o q =>
          have z := I'.pin (b, o) (List.mem_append_right _ (List.mem_append_right _ (mem_pinsAt hb q)))
          ⟨z.1, z.2.1⟩
        have hl : (wipe σ (own.map (·.2))).length = σ8.length := by rw [← hw8, wipe_length]
        refine ⟨m', hm, i + 1, H', (I'.unpinned (pins := [])).weak hl (fun j v ej => ?_), T.keep _ _ _ st7 fun b hb o q => (pinned b hb o q).1, fun b hb => ?_, w'⟩
        · rw [← hw8] at ej
          exact (wipe_some ej).1
        · obtain ⟨o, q, _⟩ := T.obj _ _ st7 b hb
          exact (pinned b hb o q).2
      cases b with
      | false =>
        simp only [Bool.false_eq_true, if_false] at q9 ⊢
        exact fin I9 q9
      | true =>
        simp only [if_true] at q9 ⊢
        intro k' Q' hk'
        exact pl _ s9 σ8 H9 Nx' k' Q' I9 q9 fun s10 H10 I10 nx => hk' s10 (fin I10 nx)
  rw [yP, yw, yA, ye] at loop
  exact cstart c rfl loop (T.self X.A 0 _ _ _ st4 loop)
section
variable {X : Cx} {elt tg iter : Expr} {ifs : List Expr} {rest : List Comprehension} {scope : Scope} {own : List (Str × Nat)} {pos : Pos} {wi : TI} {g : Blk → TG} {tt : Blk → TT} {t : Blk → Addr → L2.St → Hp → (Hp → Prop) → Prop}
theorem pe_compS (ha : ∀ c ∈ rest, c.is_async = 0) (hc : X.calm = true) (hN : X.N.Nodup) (hi : PI X tg iter wi) (ok : BlkOk X.N X.env.scope scope own) (hg : AtBlk X scope fun b Y => PG Y tg (g b)) (ht : AtBlk X scope fun b Y => PTs Y ifs (tt b))
    (hr : AtBlk X scope fun b Y => ∀ p, PL Y (.SetComp elt (⟨tg, iter, ifs, 0⟩ :: rest) scope pos) (⟨tg, iter, ifs, 0⟩ :: rest) (emitS elt) (.ref p) 1 (t b p)) (hs : ∀ x, foldedSetIterable iter X.env x = pure x) :
    PE X (.SetComp elt (⟨tg, iter, ifs, 0⟩ :: rest) scope pos) (tCompS X.w wi g tt t (own.map (·.2))) := by
  refine ⟨fun pins s σ H Q I h => ?_⟩
  rw [PpSet.eval_SetComp]
  refine comp_coreS (cmpS elt _ scope pos (fun c hc => ?_)) hc hN I hi ok hg ht hr hs h fun p C s' m H' I' q hn f => ⟨m, hn, fun h'' sb => ?_⟩
  · rcases List.mem_cons.mp hc with rfl | hc
    · rfl
    · exact ha c hc
  · obtain ⟨f0, f1, f2, f3, f4, f5⟩ := f
    exact ⟨.ref p, H', I'.turned (t' := s'.toks) (fun b o hb e => (sb.2 b hb).trans e) f0 f1 f3 f4 f5, rfl, q⟩
end
/-- the set holds what was put to it -/
def AR (w : World) (p : Addr) (o : HO) (acc : List D) : Prop := ∃ (S : Int → Bool) (n : Nat) (ns : List Int), o = SetIO w p S n ∧ (∀ j, S j = decide (j ∈ ns)) ∧ n ≤ ns.length ∧ acc = ns.map PyData.int
theorem AR.nt {w : World} {p : Addr} {o : HO} {acc : List D} (h : AR w p o acc) : NT o := by
  obtain ⟨S, n, ns, rfl, _⟩ := h
  exact fun _ z => nomatch z
def SndPS (E : Ev) (p : Addr) (t : L2.St → Hp → (Hp → Prop) → Prop) (f : Fp) : Prop := ∀ (G : Cfg) (W : Wt) (σ : L2.St) (H : Hp) (s : S) (o : HO) (acc acc' : List D) (s' : S), Rel E (G.lay p o) W H σ s → ¬ TownA W p → AR E.w p o acc → f acc s = some (acc', s') → ∀ Nx : Hp → Prop,
  (∀ (o' : HO) (H' : Hp), Rel E (G.lay p o') W H' σ s' → Fz (Av (G.bar p) W) (Av (G.bar p) W) H H' → AR E.w p o' acc' → Nx H') → t σ H Nx
def pEmitI (f : Fe) : Fp := fun acc s => (f s).bind fun (y, s1) => match y with
  | .int k => if acc.length < 4000 then some (acc ++ [.int k], s1) else none
  | _ => none
theorem snd_emitS {E : Ev} {p : Addr} {te : TE} {f : Fe} (sn : SndE E te f) : SndPS E p (fun σ H Nx => te σ H fun y H1 => ∃ k S n, y = .int k ∧ H1 p = some (SetIO E.w p S n) ∧ n + 1 < scanBound ∧ Nx (upd H1 p (SetIO E.w p (fun j => S j || decide (j = k)) (if S k = true then n else n + 1)))) (pEmitI f) := by
  intro G W σ H s o acc acc' s' R ht rs hf Nx hn
  unfold pEmitI at hf
  simp only [Option.bind_eq_some_iff] at hf
  obtain ⟨⟨y, s1⟩, e1, e2⟩ := hf
  dsimp only at e2
  split at e2
  · rename_i k
    split at e2
    · rename_i hl
      cases e2
      obtain ⟨S, n, ns, rfl, hS, hn', rfl⟩ := rs
      rw [List.length_map] at hl
      refine sn (G.lay p (SetIO E.w p S n)) W σ H s _ _ R e1 _ fun v H1 R1 z1 p1 => ?_
      cases p1
      have av : Av (G.bar p) W p := .inl (.inr rfl)
      refine ⟨k, S, n, rfl, R1.at_lay ht, by unfold scanBound; omega, hn _ _ (R1.lay_put ht (fun _ z => nomatch z)) (z1.trans (Fz.turn av)) ⟨_, _, ns ++ [k], rfl, fun j => ?_, ?_, by rw [List.map_append]; rfl⟩⟩
      · rw [hS j, ← Bool.decide_or]
        exact decide_eq_decide.mpr (by simp)
      · rw [List.length_append, List.length_singleton]
        split <;> omega
    · cases e2
  · cases e2
theorem snd_turnsS {E : Ev} {G : Cfg} {W : Wt} {H1 H2 : Hp} {σ : L2.St} {s0 s' : S} {p : Addr} {o0 : HO} {acc acc' ds : List D} {A0 : Addr → Prop} {J : It} {Gd : Hp → Prop} {Y : Nat → Hp → V → Hp → Prop} {tg : TG} {g : Fg} {tt : TT} {ft : Fe} {t : L2.St → Hp → (Hp → Prop) → Prop} {inner : Fp} {vs : List Nat} {Nx : Hp → Prop}
    (sg : SndGc E vs tg g) (st : SndT E tt ft) (sp : SndPS E p t inner) (wl : Wlk E A0 H1 J ds Gd Y) (z0 : Fz A0 (Av (G.bar p) W) H1 H2) (R2 : Rel E (G.lay p o0) W H2 (L2.wipe σ vs) s0) (ht : ¬ TownA W p) (wn : Wn W vs) (rs : AR E.w p o0 acc)
    (hl : clLoop g ft vs inner ds acc s0 = some (acc', s')) (hn : ∀ (ys : HO) H', Rel E (G.lay p ys) W H' (L2.wipe σ vs) s' → Fz (Av (G.bar p) W) (Av (G.bar p) W) H2 H' → AR E.w p ys acc' → Nx H') : tTurns J tg tt t vs σ H2 Nx := by
  refine ⟨fun i m H => m = ds.length - i ∧ i ≤ ds.length ∧ ∃ ys acci si, Rel E (G.lay p ys) W H (L2.wipe σ vs) si ∧ Fz (Av (G.bar p) W) (Av (G.bar p) W) H2 H ∧ AR E.w p ys acci ∧ clLoop g ft vs inner (ds.drop i) acci si = some (acc', s'), ⟨ds.length, by simp, Nat.zero_le _, o0, acc, s0, R2, Fz.refl, rs, hl⟩, ?_⟩
  rintro i m H ⟨rfl, hi, ys, acci, si, R, z, r, hc⟩
  have zz : Fz A0 (Av (G.bar p) W) H1 H := z0.trans z
  have gd := wl.keep _ H zz
  by_cases hlt : i < ds.length
  · refine .inr ⟨wl.walk.goes i H hlt gd, fun H' => ∃ ys acci si, Rel E (G.lay p ys) W H' (L2.wipe σ vs) si ∧ Fz (Av (G.bar p) W) (Av (G.bar p) W) H2 H' ∧ AR E.w p ys acci ∧ clLoop g ft vs inner (ds.drop (i + 1)) acci si = some (acc', s'), fun H' q => ⟨ds.length - (i + 1), by omega, rfl, hlt, q⟩, fun x H' hy => ?_⟩
    obtain ⟨sm, d, hd, rd⟩ := wl.item _ i H x H' zz R.fre hlt (wl.walk.yields i H x H' hlt gd hy)
    have zs : Fz (Av (G.bar p) W) (Av (G.bar p) W) H H' := Fz.of_same sm
    rw [List.drop_eq_getElem_cons hlt] at hc
    have ed : ds[i] = d := by rw [List.getElem?_eq_getElem hlt] at hd; exact Option.some.inj hd
    rw [ed] at hc
    unfold clLoop at hc
    simp only [Option.bind_eq_some_iff] at hc
    obtain ⟨s1, e1, ⟨b, s2⟩, e2, e3⟩ := hc
    refine sg _ W _ H' si x d s1 (R.same sm) wn rd e1 _ fun σ2 R1 hw => ⟨by rw [hw, wipe_idem], ?_⟩
    rw [wipe_idem] at hw
    dsimp only at e3
    split at e3
    · refine st _ W σ2 H' s1 true s2 R1 e2 _ fun H3 R3 z3 => ?_
      rw [if_pos rfl]
      simp only [Option.bind_eq_some_iff] at e3
      obtain ⟨⟨acc2, s3⟩, e4, e5⟩ := e3
      refine sp G W σ2 H3 s2 ys acci acc2 s3 R3 ht r e4 _ fun ys' H4 R4 z4 r4 => ⟨ys', acc2, s3.wipe vs, ?_, ((z.trans zs).trans z3).trans z4, r4, e5⟩
      rw [← hw]
      exact R4.wipe wn
    · refine st _ W σ2 H' s1 false s2 R1 e2 _ fun H3 R3 z3 => ?_
      rw [if_neg Bool.false_ne_true]
      refine ⟨ys, acci, s2.wipe vs, ?_, (z.trans zs).trans z3, r, e3⟩
      rw [← hw]
      exact R3.wipe wn
    · cases e3
  · have e : i = ds.length := by omega
    subst e
    rw [List.drop_length] at hc
    unfold clLoop at hc
    cases hc
    exact .inl ⟨wl.walk.stops H gd, hn ys H R z r⟩
theorem snd_clauseS {E : Ev} {p : Addr} {wi : TI} {fi : Fa} {tg : TG} {g : Fg} {tt : TT} {ft : Fe} {t : L2.St → Hp → (Hp → Prop) → Prop} {inner : Fp} {vs : List Nat} (si : SndI E wi fi) (sg : SndGc E vs tg g) (st : SndT E tt ft) (sp : SndPS E p t inner) :
    SndPS E p (fun σ H Nx => (∀ i ∈ vs, σ[i]? = some none) ∧ tClause wi tg tt t vs σ H Nx) (pFor fi g ft vs inner) := by
  intro G W σ H s o0 acc acc' s' R ht rs hf Nx hn
  unfold pFor at hf
  split at hf
  · rename_i hno
    simp only [Option.bind_eq_some_iff] at hf
    obtain ⟨⟨ds, s1⟩, e1, e2⟩ := hf
    have hv : ∀ i ∈ vs, σ[i]? = some none := fun i hi => R.noc i (allNo_at hno i hi)
    have wn : Wn W vs := fun i hi => by
      cases q : W.ow i with
      | none => rfl
      | some a =>
        obtain ⟨_, _, _, d, h4⟩ := R.dom i a q
        rw [allNo_at hno i hi] at h4; cases h4
    have ew : L2.wipe σ vs = σ := wipe_none hv
    refine ⟨hv, si _ W σ H s ds s1 R e1 _ fun J H1 Gd Y R1 z1 wl => ?_⟩
    refine snd_turnsS (G := G) sg st sp wl Fz.refl (by rw [ew]; exact R1) ht wn rs e2 fun ys H' R' z' r' => ?_
    rw [ew] at R'
    exact hn ys H' R' (z1.trans z') r'
  · cases hf
theorem snd_compS {E : Ev} {wi : TI} {fi : Fa} {tg : Blk → TG} {g : Fg} {tt : Blk → TT} {ft : Fe} {t : Blk → Addr → L2.St → Hp → (Hp → Prop) → Prop} {inner : Fp} {vs : List Nat} (si : SndI E wi fi) (sg : ∀ b, SndGc E vs (tg b) g) (st : ∀ b, SndT E (tt b) ft) (sp : ∀ b p, SndPS E p (t b p) inner)
    {G : Cfg} {W : Wt} {σ : L2.St} {H : Hp} {s : S} {d : D} {s' : S} (R : Rel E G W H σ s) (hf : eComp fi g ft vs inner s = some (d, s')) (Q : VK) (hq : ∀ (p : Addr) (H' : Hp) (S : Int → Bool) (n : Nat) (ns : List Int), H p = none → Rel E (G.bar p) W H' σ s' → Fz (Av G W) (Av (G.bar p) W) H H' → H' p = some (SetIO E.w p S n) → (∀ j, S j = decide (j ∈ ns)) → d = .list (ns.map PyData.int) → Q (.ref p) H') : tCompS E.w wi tg tt t vs σ H Q := by
  unfold eComp at hf
  simp only [Option.bind_eq_some_iff] at hf
  obtain ⟨⟨ds, s1⟩, e1, e2⟩ := hf
  dsimp only at e2
  split at e2
  · rename_i hno
    simp only [Option.map_eq_some_iff] at e2
    obtain ⟨⟨acc, s2⟩, e3, e4⟩ := e2
    cases e4
    refine si G W σ H s ds s1 R e1 _ fun J H1 Gd Y R1 z1 wl p hp b => ?_
    have hp0 : H p = none := none_back R z1 R1.there hp
    have ht : ¬ TownA W p := fun z => R1.free hp (.inr (.inr z))
    have wn : Wn W vs := fun i hi => by
      cases q : W.ow i with
      | none => rfl
      | some a =>
        obtain ⟨_, _, _, d, h4⟩ := R1.dom i a q
        exact absurd h4 ((noOwn_at hno hi).1 d)
    have R2 : Rel E (G.lay p (SetIO E.w p (fun _ => false) 0)) W (upd H1 p (SetIO E.w p (fun _ => false) 0)) (L2.wipe σ vs) (s1.wipe vs) := (R1.to_lay (o := SetIO E.w p (fun _ => false) 0) hp (fun _ z => nomatch z)).wipe wn
    have z2 : Fz (Av G W) (Av (G.bar p) W) H1 (upd H1 p (SetIO E.w p (fun _ => false) 0)) := Fz.laid hp G W
    refine snd_turnsS (G := G) (sg b) (st b) (sp b p) wl z2 R2 ht wn ⟨_, _, [], rfl, fun j => by simp, Nat.le_refl _, rfl⟩ e3 fun ys H' R' z' r' => ?_
    obtain ⟨S, n, ns, rfl, hS, _, rfl⟩ := r'
    have e0 : G.H0 p = none := R1.fresh0 hp
    exact hq p H' S n ns hp0 (R1.mix (R'.of_lay e0) hno (z2.trans z')) (z1.trans (z2.trans z')) (R'.at_lay ht) hS rfl
  · cases e2
/-! ### derivations -/
structure VPS (Y : Cx) (e : Expr) (gens : List Comprehension) (elt : Expr) (d : Nat) (f : Fp) : Prop where
  ex : ∀ p : Addr, ∃ t, PL Y e gens (emitS elt) (.ref p) d t ∧ SndPS (evX Y) p t f
section
variable {Y X : Cx} {e elt tg iter : Expr} {es ifs : List Expr} {gens rest : List Comprehension} {d : Nat} {f ft : Fe} {fi : Fa} {g : Fg} {vs : List Nat} {inner : Fp} {scope : Scope} {own : List (Str × Nat)} {pos p' spos : Pos} {c : Expr}
theorem vps_emit (hx : Y.xe = FF) (he : VE Y elt f) (hd : gens[d]? = none := by rfl) : VPS Y e gens elt d (pEmitI f) := ⟨fun p => let ⟨_, pe, sn⟩ := he.ex; ⟨_, pl_emitS hx hd pe, snd_emitS sn⟩⟩
theorem vps_for (k : CmpK e gens (emitS elt)) (hx : Y.xe = FF) (hc : Y.calm = true) (hi : VI Y tg iter fi) (hg : VGe Y vs tg g) (ht : VTs Y ifs ft) (hr : VPS Y e gens elt (d + 1) inner) (hd : gens[d]? = some ⟨tg, iter, ifs, 0⟩ := by rfl) (hs : ∀ x, foldedSetIterable iter Y.env x = pure x := by intro _; rfl) : VPS Y e gens elt d (pFor fi g ft vs inner) := by
  refine ⟨fun p => ?_⟩
  obtain ⟨wi, pi, si⟩ := hi.ex
  obtain ⟨tt, pt, st⟩ := ht.ex
  obtain ⟨t, pl, sl⟩ := hr.ex p
  obtain ⟨tg', pg⟩ := hg.ex
  exact ⟨_, pl_clause k hx hc hd pi pg.p pt hs pl, snd_clauseS si pg.s st sl⟩
structure BlkS (Y : Cx) (tg : Expr) (ifs : List Expr) (e : Expr) (gens : List Comprehension) (elt : Expr) (vs : List Nat) (g : Fg) (ft : Fe) (inner : Fp) : Prop where
  hg : VGe Y vs tg g
  ht : VTs Y ifs ft
  hr : VPS Y e gens elt 1 inner
end
section
variable {X : Cx} {pins : List (Addr × Obj)} {σ : L2.St} {H : Hp} {s : Shared}
theorem sorted_setIO {D0 : Addr} {S : Int → Bool} {n0 : Nat} {ns : List Int} {Q : VK} (hc : X.calm = true) (hu : X.A.units + 64 < cLine) (I1 : Inv X pins σ H s) (hD : H D0 = some (SetIO X.w D0 S n0)) (hSL : ∀ j, S j = decide (j ∈ ns)) (q : ∀ p, H p = none → Q (.ref p) (upd H p (.lst ((sortI ns).map V.int)))) :
    wpAny (model X.prog X.w) X.A (call (.builtin "sorted") [.ref D0]) (EP X pins σ Q) X.xe s := by
  have I := I1
  have hS := setIO_get I1 hD
  obtain ⟨o, es, ep, t, ho, hex, hd, g, nd, hm, hb, hf, hn', hr, hl⟩ := hS
  have good : ∀ v ∈ es.toList.map (·.2), ∃ k t, v = Value.int k t := fun v hv => by
    obtain ⟨e, he, rfl⟩ := List.mem_map.mp hv
    obtain ⟨k, tk, h1, _⟩ := g e he
    exact ⟨k, tk, h1⟩
  refine sorted_of_set (enc := encI) (I.ok.hd hc) ⟨o, ho, hex.1, hd⟩ hf hb hr hl (fun v hv => ?_) (fun v v' => ?_) (.inr fun v => ?_) (fun v => ?_) fun s' p vs out cc k2 g2 o2 hp hg pm eo => ?_
  · obtain ⟨k, t, rfl⟩ := good v hv
    exact ⟨[], .int k t⟩
  · rw [encI_num, encI_num]; simp [PySem.W.alike]
  · rw [encI_num]; exact ⟨fun z => (nomatch z), fun xs z => (nomatch z)⟩
  · rw [encI_num]; simp [PyData.depth]; omega
  · have gv : ∀ v ∈ vs, ∃ k t, v = Value.int k t := fun v hv => good v (pm.mem_iff.mp hv)
    have go : ∀ v ∈ out, ∃ k t, v = Value.int k t := fun v hv => by rw [eo] at hv; exact gv v (List.mem_mergeSort.mp hv)
    have ek : (es.toList.map (·.2)).map numI = es.toList.map L2.keyOf := by
      rw [List.map_map]
      refine List.map_congr_left fun e he => ?_
      obtain ⟨k, tk, h1, _⟩ := g e he
      show numI e.2 = L2.keyOf e
      unfold L2.keyOf
      rw [h1]
      rfl
    have en : out.map numI = sortI ns := by
      rw [eo, PySem.W.sort_maps numI (fun a _ b _ => leI_enc a b)]
      have pn : (vs.map numI).Perm (es.toList.map L2.keyOf) := by rw [← ek]; exact pm.map numI
      refine sort_same leI_tr leI_tot leI_anti (pn.nodup_iff.mpr nd) fun x => ?_
      rw [pn.mem_iff, ← hm x, hSL x, decide_eq_true_eq]
    have hn : H p = none := I1.hok.fresh hp
    have vo := vals_nums go
    rw [en] at vo
    have hlen : ((sortI ns).map V.int).length ≤ sizeLine := by rw [vo.length, eo, List.length_mergeSort, pm.length_eq, List.length_map, Array.length_toList, sizeLine_eq]; unfold scanBound at hb; omega
    have J : Inv X pins σ (upd H p (.lst ((sortI ns).map V.int))) { s with heap := s'.heap, gens := s'.gens, drawn := s'.drawn, toks := s'.toks } :=
      I1.call (ch := []) (Un.laid k2 hp hn) (I1.hok.laid k2 hp ⟨hlen, out, cc, vo, hg⟩) (by rw [g2]; exact I1.bare) (fun _ z => nomatch z)
    have e : s' = { s with heap := s'.heap, gens := s'.gens, drawn := s'.drawn, toks := s'.toks } := by
      cases s'; cases s; cases o2; rfl
    rw [e]
    exact ⟨.ref p, _, J, rfl, q p hn⟩
/-! tuples -/
end
section
variable {X : Cx} {elt tg iter : Expr} {ifs : List Expr} {rest : List Comprehension} {scope : Scope} {own : List (Str × Nat)} {pos p' spos : Pos} {g : Fg} {ft : Fe} {fi : Fa} {inner : Fp}
theorem rowsI_ints : ∀ ns : List Int, rowsI (ns.map PyData.int) = some ns
  | [] => rfl
  | k :: ns => by
    show (rowsI (ns.map PyData.int)).map (fun ns => k :: ns) = _
    rw [rowsI_ints ns]
    rfl
theorem vf_sortSC (hc : X.calm = true) (hu : X.A.units + 64 < cLine) (hgs : Gl X "sorted") (hms : X.mg "sorted" = none) (hN : X.N.Nodup) (ok : BlkOk X.N X.env.scope scope own) (hi : VI X tg iter fi)
    (hb : ∀ b : Blk, BlkS (blkAt X scope b) tg ifs (.SetComp elt (⟨tg, iter, ifs, 0⟩ :: rest) scope pos) (⟨tg, iter, ifs, 0⟩ :: rest) elt (own.map (·.2)) g ft inner) (ha : ∀ c ∈ rest, c.is_async = 0 := by decide) (hs : ∀ x, foldedSetIterable iter X.env x = pure x := by intro _; rfl)
    (nb : starEach [Expr.SetComp elt (⟨tg, iter, ifs, 0⟩ :: rest) scope pos] X.env = (false, eval (Expr.SetComp elt (⟨tg, iter, ifs, 0⟩ :: rest) scope pos) X.env) :: starEach [] X.env := by rfl) :
    VF X (.Call (.Name "sorted" p') [.SetComp elt (⟨tg, iter, ifs, 0⟩ :: rest) scope pos] [] spos) (eUn sortSetD (eComp fi g ft (own.map (·.2)) inner)) := by
  obtain ⟨wi, pi, si⟩ := hi.ex
  have a1 : ∀ b, ∃ t, VGc (blkAt X scope b) (own.map (·.2)) tg t g := fun b => (hb b).hg.ex
  have a2 : ∀ b, ∃ t, PTs (blkAt X scope b) ifs t ∧ SndT (evX X) t ft := fun b => (hb b).ht.ex
  have a3 : ∀ b, ∀ p, ∃ t, PL (blkAt X scope b) (.SetComp elt (⟨tg, iter, ifs, 0⟩ :: rest) scope pos) (⟨tg, iter, ifs, 0⟩ :: rest) (emitS elt) (.ref p) 1 t ∧ SndPS (evX X) p t inner := fun b => (hb b).hr.ex
  have pe := pe_compS ha hc hN pi ok (fun b => (a1 b).choose_spec.p) (fun b => (a2 b).choose_spec.1) (fun b p => (a3 b p).choose_spec.1) hs
  refine ⟨fun σ H Q => tCompS X.w wi (fun b => (a1 b).choose) (fun b => (a2 b).choose) (fun b p => (a3 b p).choose) (own.map (·.2)) σ H fun v H1 => ∃ (D0 : Addr) (S : Int → Bool) (n0 : Nat) (ns : List Int), v = .ref D0 ∧ H1 D0 = some (SetIO X.w D0 S n0) ∧ (∀ j, S j = decide (j ∈ ns)) ∧ ∀ p, H1 p = none → Q (.ref p) (upd H1 p (.lst ((sortI ns).map V.int))), ⟨fun pins s σ H Q I h => ?_⟩, ?_⟩
  · refine Call_ (ld_blt I hgs hms PyProof.Rows.boot_sorted ?_)
    refine PyProof.Rows.callWith_builtin1 (PyProof.Rows.args_cons (thn (pe.run pins s σ H _ I h) fun v s1 ⟨x, H1, I1, r1, D0, S, n0, ns, ex, hD, hS, q1⟩ => PyProof.Rows.args_nil ?_) nb) nb rfl
    subst ex
    cases r1
    exact sorted_setIO hc hu I1 hD hS q1
  · intro G W σ H s d s' R hf Q hq
    unfold eUn at hf
    simp only [Option.bind_eq_some_iff, Option.map_eq_some_iff] at hf
    obtain ⟨⟨x, s1⟩, e1, z, e2, e3⟩ := hf
    cases e3
    refine snd_compS si (fun b => (a1 b).choose_spec.s) (fun b => (a2 b).choose_spec.2) (fun b p => (a3 b p).choose_spec.2) R e1 _ fun p H1 S n ns hp0 R1 z1 hD hS ex => ?_
    subst ex
    refine ⟨p, S, n, ns, rfl, hD, hS, fun p2 hn => ?_⟩
    have R1' := R1.unbar
    have z1' := z1.unbar
    have er := rowsI_ints ns
    unfold sortSetD at e2
    dsimp only at e2
    rw [er] at e2
    dsimp only at e2
    split at e2
    · cases e2
      exact hq p2 _ (none_back R z1' R1'.there hn) (R1'.laid hn) (z1'.laid' hn) (new_list hn (reps_ints _))
    · cases e2
end
end Fx
-- Fl1
namespace Fx
open PySem PySem.Spec L2
/-! ### hidden objects: one slot holds a dict of lists, all of its own -/
def hide (G : Cfg) (M : Hp) (a : Addr) : Cfg := { H0 := fun x => (M x).or (G.H0 x), O := fun x => G.O x ∨ M x ≠ none, pt := a }
theorem hide_lay {G : Cfg} {M : Hp} {a p : Addr} {o : HO} : (hide G M a).lay p o = hide G (upd M p o) a := by
  have h1 : (fun x => upd (fun x => (M x).or (G.H0 x)) p o x) = fun x => (upd M p o x).or (G.H0 x) := by
    funext x
    by_cases z : x = p
    · subst z; rw [upd_same, upd_same]; rfl
    · rw [upd_ne z, upd_ne z]
  have h2 : (fun x => (G.O x ∨ M x ≠ none) ∨ x = p) = fun x => G.O x ∨ upd M p o x ≠ none := by
    funext x
    apply propext
    by_cases z : x = p
    · subst z; rw [upd_same]; simp
    · rw [upd_ne z]; simp [z]
  unfold Cfg.lay hide
  exact congr (congr (congrArg Cfg.mk h1) h2) rfl
def hdel (M : Hp) (p : Addr) : Hp := fun x => if x = p then none else M x
theorem hdel_same {M : Hp} {p : Addr} : hdel M p p = none := if_pos rfl
theorem hdel_ne {M : Hp} {p x : Addr} (h : x ≠ p) : hdel M p x = M x := if_neg h
theorem upd_del {M : Hp} {p : Addr} {o : HO} (h : M p = some o) : upd (hdel M p) p o = M := by
  funext x
  by_cases z : x = p
  · subst z; rw [upd_same, h]
  · rw [upd_ne z, hdel_ne z]
section
variable {E : Ev} {G : Cfg} {M : Hp} {W W' : Wt} {H H' : Hp} {σ σ' : L2.St} {s s' : S} {a p : Addr} {o o' : HO}
theorem hid_at (R : Rel E (hide G M a) W H σ s) (tn : W.tn = none) (h : M p = some o) : H p = some o :=
  R.fr p o (by show (M p).or _ = _; rw [h]; rfl) (R.pl.not (o := o) tn (by show (M p).or _ = _; rw [h]; rfl))
theorem hid_av (h : M p ≠ none) : Av (hide G M a) W p := .inl (.inr h)
/-- a new object is hidden -/
theorem hid_new (R : Rel E (hide G M a) W H σ s) (h : H p = none) (hnt : NT o := by exact fun _ z => nomatch z) : Rel E (hide G (upd M p o) a) W (upd H p o) σ s := by
  rw [← hide_lay]
  exact R.to_lay h hnt
/-- a hidden object is changed -/
theorem hid_put (R : Rel E (hide G M a) W H σ s) (tn : W.tn = none) (h : M p = some o) (hnt : NT o' := by exact fun _ z => nomatch z) : Rel E (hide G (upd M p o') a) W (upd H p o') σ s := by
  have e : hide G M a = (hide G (hdel M p) a).lay p o := by rw [hide_lay, upd_del h]
  rw [e] at R
  have q := R.lay_put (o' := o') (R.pl.not (o := o) tn upd_same) hnt
  rw [hide_lay] at q
  have e2 : upd (hdel M p) p o' = upd M p o' := by
    funext x
    by_cases z : x = p
    · subst z; rw [upd_same, upd_same]
    · rw [upd_ne z, upd_ne z, hdel_ne z]
  rw [e2] at q
  exact q
/-- and is hidden no more -/
theorem hid_del (R : Rel E (hide G M a) W H σ s) (h : M p = some o) (h0 : G.H0 p = none) : Rel E (hide G (hdel M p) a) W H σ s := by
  have e : hide G M a = (hide G (hdel M p) a).lay p o := by rw [hide_lay, upd_del h]
  rw [e] at R
  exact (R.of_lay (by show ((hdel M p) p).or _ = none; rw [hdel_same, h0]; rfl)).unbar
end
abbrev Lv := List (Int × List D)
inductive LvE (E : Ev) (A : Addr → Prop) (M H : Hp) : List (Key × V) → Lv → List Addr → Prop
  | nil : LvE E A M H [] [] []
  | cons {k : Int} {b : Addr} {xs : List V} {ds : List D} {kvs : List (Key × V)} {L : Lv} {bs : List Addr} : M b = some (.lst xs) → Reps E A H xs ds → LvE E A M H kvs L bs → LvE E A M H ((.inl k, .ref b) :: kvs) ((k, ds) :: L) (b :: bs)
def lookL (c : Int) : Lv → Option (List D)
  | [] => none
  | (k, ds) :: L => if k = c then some ds else lookL c L
def dropL (c : Int) : Lv → Lv
  | [] => []
  | (k, ds) :: L => if k = c then dropL c L else (k, ds) :: dropL c L
def appL (c : Int) (d : D) : Lv → Lv
  | [] => []
  | (k, ds) :: L => if k = c then (k, ds ++ [d]) :: L else (k, ds) :: appL c d L
def setL (c : Int) (L : Lv) : Lv := match lookL c L with
  | some _ => L
  | none => L ++ [(c, [])]
section
variable {E : Ev} {A B : Addr → Prop} {M M' H H' : Hp} {kvs : List (Key × V)} {L : Lv} {bs : List Addr} {c : Int} {ds : List D}
theorem LvE.fz (r : LvE E A M H kvs L bs) (f : Fz A B H H') (m : ∀ b ∈ bs, M' b = M b) : LvE E B M' H' kvs L bs := by
  induction r with
  | nil => exact .nil
  | cons h1 h2 _ ih => exact .cons ((m _ List.mem_cons_self).trans h1) (h2.fz f) (ih fun b hb => m b (List.mem_cons_of_mem _ hb))
theorem LvE.length (r : LvE E A M H kvs L bs) : kvs.length = L.length := by
  induction r with
  | nil => rfl
  | cons _ _ _ ih => simp [ih]
theorem LvE.mem (r : LvE E A M H kvs L bs) : ∀ b ∈ bs, M b ≠ none := by
  induction r with
  | nil => exact fun b hb => by cases hb
  | cons h1 _ _ ih =>
    intro b hb
    rcases List.mem_cons.mp hb with rfl | hb
    · rw [h1]; exact fun z => nomatch z
    · exact ih b hb
theorem LvE.keys (r : LvE E A M H kvs L bs) : kvs.map (·.1) = (L.map (·.1)).map Sum.inl := by
  induction r with
  | nil => rfl
  | cons _ _ _ ih => simp only [List.map_cons, ih]
theorem LvE.look (r : LvE E A M H kvs L bs) (h : lookL c L = some ds) : ∃ b xs, valV kvs (.inl c) = some (.ref b) ∧ b ∈ bs ∧ M b = some (.lst xs) ∧ Reps E A H xs ds := by
  induction r with
  | nil => cases h
  | @cons k b xs ds' kvs L bs h1 h2 _ ih =>
    unfold lookL at h
    split at h
    · rename_i e
      cases h
      exact ⟨b, xs, valV_pos (by rw [e]), List.mem_cons_self, h1, h2⟩
    · rename_i e
      obtain ⟨b', xs', q1, q2, q3, q4⟩ := ih h
      exact ⟨b', xs', by rw [valV_neg (fun z => e (Sum.inl.inj z))]; exact q1, List.mem_cons_of_mem _ q2, q3, q4⟩
theorem LvE.none (r : LvE E A M H kvs L bs) (h : lookL c L = none) : valV kvs (.inl c) = none := by
  induction r with
  | nil => rfl
  | @cons k b xs ds' kvs L bs h1 h2 _ ih =>
    unfold lookL at h
    split at h
    · cases h
    · rename_i e
      rw [valV_neg (fun z => e (Sum.inl.inj z))]
      exact ih h
theorem LvE.snoc {b : Addr} {xs : List V} (r : LvE E A M H kvs L bs) (h1 : M b = some (.lst xs)) (h2 : Reps E A H xs ds) : LvE E A M H (kvs ++ [(.inl c, .ref b)]) (L ++ [(c, ds)]) (bs ++ [b]) := by
  induction r with
  | nil => exact .cons h1 h2 .nil
  | cons g1 g2 _ ih => exact .cons g1 g2 ih
theorem LvE.drop (r : LvE E A M H kvs L bs) : ∃ bs', bs'.Sublist bs ∧ LvE E A M H (dropK kvs (.inl c)) (dropL c L) bs' ∧ ∀ b, valV kvs (.inl c) = some (.ref b) → bs.Nodup → b ∉ bs' := by
  induction r with
  | nil => exact ⟨[], .slnil, .nil, fun b h _ => by cases h⟩
  | @cons k b xs ds' kvs L bs h1 h2 r ih =>
    obtain ⟨bs', q1, q2, q3⟩ := ih
    by_cases e : k = c
    · refine ⟨bs', q1.cons _, ?_, fun b' h nd hm => ?_⟩
      · have e1 : dropK ((Sum.inl k, V.ref b) :: kvs) (Sum.inl c) = dropK kvs (Sum.inl c) := by simp [dropK, e]
        have e2 : dropL c ((k, ds') :: L) = dropL c L := by simp [dropL, e]
        rw [e1, e2]
        exact q2
      · rw [valV_pos (by rw [e])] at h
        cases h
        exact (List.nodup_cons.mp nd).1 (q1.mem hm)
    · refine ⟨b :: bs', q1.cons₂ _, ?_, fun b' h nd hm => ?_⟩
      · have e1 : dropK ((Sum.inl k, V.ref b) :: kvs) (Sum.inl c) = (Sum.inl k, V.ref b) :: dropK kvs (Sum.inl c) := by
          simp [dropK, e]
        have e2 : dropL c ((k, ds') :: L) = (k, ds') :: dropL c L := by simp [dropL, e]
        rw [e1, e2]
        exact .cons h1 h2 q2
      · rw [valV_neg (fun z => e (Sum.inl.inj z))] at h
        rcases List.mem_cons.mp hm with rfl | hm
        · -- the same address twice
          have hb : ∀ {kvs : List (Key × V)} {L : Lv} {bs : List Addr}, LvE E A M H kvs L bs → ∀ b', valV kvs (.inl c) = some (.ref b') → b' ∈ bs := fun {kvs L bs} r => by
            induction r with
            | nil => exact fun b' h => by cases h
            | @cons k2 b2 xs2 ds2 kvs2 L2 bs2 g1 g2 _ ih2 =>
              intro b' h
              by_cases e : k2 = c
              · rw [valV_pos (by rw [e])] at h; cases h; exact List.mem_cons_self
              · rw [valV_neg (fun z => e (Sum.inl.inj z))] at h
                exact List.mem_cons_of_mem _ (ih2 b' h)
          exact (List.nodup_cons.mp nd).1 (hb r _ h)
        · exact q3 b' h (List.nodup_cons.mp nd).2 hm
/-- one list grows -/
theorem LvE.app {b : Addr} {xs : List V} {v : V} {d : D} (r : LvE E A M H kvs L bs) (nd : bs.Nodup) (hb : valV kvs (.inl c) = some (.ref b)) (hx : M b = some (.lst xs)) (f : Fz A B H H') (hv : Rep E B H' v d) :
    LvE E B (upd M b (.lst (xs ++ [v]))) H' kvs (appL c d L) bs := by
  induction r with
  | nil => exact .nil
  | @cons k b' xs' ds' kvs L bs h1 h2 r ih =>
    obtain ⟨n1, n2⟩ := List.nodup_cons.mp nd
    by_cases e : k = c
    · rw [valV_pos (by rw [e])] at hb
      cases hb
      rw [hx] at h1
      cases h1
      have e2 : appL c d ((k, ds') :: L) = (k, ds' ++ [d]) :: L := by simp [appL, e]
      rw [e2]
      exact .cons upd_same ((h2.fz f).append (.cons hv .nil)) (r.fz f fun b2 hb2 => upd_ne fun z => n1 (by rw [← z]; exact hb2))
    · rw [valV_neg (fun z => e (Sum.inl.inj z))] at hb
      have e2 : appL c d ((k, ds') :: L) = (k, ds') :: appL c d L := by simp [appL, e]
      rw [e2]
      have hne : b' ≠ b := fun z => by
        subst z
        have hb' : ∀ {kvs : List (Key × V)} {L : Lv} {bs : List Addr}, LvE E A M H kvs L bs → ∀ b', valV kvs (.inl c) = some (.ref b') → b' ∈ bs := fun {kvs L bs} r => by
          induction r with
          | nil => exact fun b' h => by cases h
          | @cons k2 b2 xs2 ds2 kvs2 L2 bs2 g1 g2 _ ih2 =>
            intro b' h
            by_cases e : k2 = c
            · rw [valV_pos (by rw [e])] at h; cases h; exact List.mem_cons_self
            · rw [valV_neg (fun z => e (Sum.inl.inj z))] at h
              exact List.mem_cons_of_mem _ (ih2 b' h)
        exact n1 (hb' r _ hb)
      exact .cons (by rw [upd_ne hne]; exact h1) (h2.fz f) (ih n2 hb)
end
theorem drop_keys {c : Int} : ∀ L : Lv, ((dropL c L).map (·.1)).Sublist (L.map (·.1))
  | [] => .slnil
  | (k, ds) :: L => by
    unfold dropL
    split
    · exact (drop_keys L).cons _
    · exact (drop_keys L).cons₂ _
theorem app_keys {c : Int} {d : D} : ∀ L : Lv, (appL c d L).map (·.1) = L.map (·.1)
  | [] => rfl
  | (k, ds) :: L => by
    unfold appL
    split
    · rfl
    · simp only [List.map_cons, app_keys L]
theorem look_none {c : Int} : ∀ {L : Lv}, lookL c L = none → c ∉ L.map (·.1)
  | [], _ => fun z => by simp at z
  | (k, ds) :: L, h => by
    unfold lookL at h
    split at h
    · cases h
    · rename_i e
      intro z
      simp only [List.map_cons, List.mem_cons] at z
      rcases z with z | z
      · exact e z.symm
      · exact look_none h z
theorem set_keys {c : Int} {L : Lv} (h : (L.map (·.1)).Nodup) : ((setL c L).map (·.1)).Nodup := by
  unfold setL
  split
  · exact h
  · rename_i e
    rw [List.map_append, List.nodup_append]
    refine ⟨h, by simp, fun u hu v hv z => ?_⟩
    simp at hv
    subst hv
    exact look_none e (by rw [← z]; exact hu)
theorem LvE.rep {E : Ev} {A B : Addr → Prop} {M M' H H' : Hp} {kvs : List (Key × V)} {L : Lv} {bs : List Addr} {c : Int} {ds : List D} {q : Addr} {ys : List V} {d : D} (r : LvE E A M H kvs L bs) (f : Fz A B H H') : (∀ b ∈ bs, M' b = M b) → (∀ b ∈ bs, b ≠ q) → bs.Nodup → (L.map (·.1)).Nodup → lookL c L = some ds → M' q = some (.lst ys) → Reps E B H' ys (ds ++ [d]) →
    ∃ bs', LvE E B M' H' (kvs.map fun kv => if kv.1 = .inl c then (kv.1, .ref q) else kv) (appL c d L) bs' ∧ bs'.Nodup ∧ ∀ b ∈ bs', b ∈ bs ∨ b = q := by
  induction r with
  | nil => intro _ _ _ _ h; cases h
  | @cons k b xs ds' kvs L bs h1 h2 r ih =>
    intro keep ne nd kd h hq hy
    obtain ⟨n1, n2⟩ := List.nodup_cons.mp nd
    obtain ⟨k1, k2⟩ := List.nodup_cons.mp (show (k :: L.map (·.1)).Nodup from kd)
    have keep' : ∀ b' ∈ bs, M' b' = M b' := fun b' hb' => keep b' (List.mem_cons_of_mem _ hb')
    by_cases e : k = c
    · have hd : ds' = ds := by unfold lookL at h; rw [if_pos e] at h; exact Option.some.inj h
      subst hd
      have e2 : appL c d ((k, ds') :: L) = (k, ds' ++ [d]) :: L := by simp [appL, e]
      have e3 : (kvs.map fun kv => if kv.1 = (.inl c : Key) then (kv.1, V.ref q) else kv) = kvs := by
        have : ∀ kv ∈ kvs, ¬ kv.1 = (.inl c : Key) := fun kv hkv z => by
          have h3 : kv.1 ∈ kvs.map (·.1) := List.mem_map.mpr ⟨kv, hkv, rfl⟩
          rw [r.keys] at h3
          obtain ⟨n, hn, en⟩ := List.mem_map.mp h3
          rw [z] at en
          cases en
          exact k1 (by rw [e]; exact hn)
        have e4 : (kvs.map fun kv => if kv.1 = (.inl c : Key) then (kv.1, V.ref q) else kv) = kvs.map id := List.map_congr_left fun kv hkv => if_neg (this kv hkv)
        rw [e4, List.map_id]
      rw [e2, List.map_cons, e3, if_pos (by rw [e])]
      refine ⟨q :: bs, .cons hq hy (r.fz f keep'), List.nodup_cons.mpr ⟨fun z => ne q (List.mem_cons_of_mem _ z) rfl, n2⟩, fun b' hb' => ?_⟩
      rcases List.mem_cons.mp hb' with z | z
      · exact .inr z
      · exact .inl (List.mem_cons_of_mem _ z)
    · have h' : lookL c L = some ds := by unfold lookL at h; rw [if_neg e] at h; exact h
      obtain ⟨bs', q1, q2, q3⟩ := ih keep' (fun b' hb' => ne b' (List.mem_cons_of_mem _ hb')) n2 k2 h' hq hy
      have e2 : appL c d ((k, ds') :: L) = (k, ds') :: appL c d L := by simp [appL, e]
      rw [e2, List.map_cons, if_neg (fun z => e (Sum.inl.inj z))]
      refine ⟨b :: bs', .cons ((keep b List.mem_cons_self).trans h1) (h2.fz f) q1, List.nodup_cons.mpr ⟨fun z => ?_, q2⟩, fun b' hb' => ?_⟩
      · rcases q3 b z with z | z
        · exact n1 z
        · exact ne b List.mem_cons_self z
      · rcases List.mem_cons.mp hb' with z | z
        · exact .inl (by rw [z]; exact List.mem_cons_self)
        · rcases q3 b' z with z | z
          · exact .inl (List.mem_cons_of_mem _ z)
          · exact .inr z
structure Rel2 (E : Ev) (i : Nat) (G : Cfg) (M : Hp) (a : Addr) (W : Wt) (H : Hp) (σ : L2.St) (s : S) (L : Lv) : Prop where
  R : Rel E (hide G M a) W H σ s
  tw : s.tw = none
  fr : ∀ x, M x ≠ none → G.H0 x = none ∧ ¬ G.O x
  pt : s.rho[i]? = some .ptr
  kd : (L.map (·.1)).Nodup
  lv : ∃ kvs bs, M a = some (.dK kvs) ∧ LvE E (Av (hide G M a) W) M H kvs L bs ∧ (a :: bs).Nodup
abbrev Fs2 := S → Lv → Option (Fl × S × Lv)
def Post2 (E : Ev) (i : Nat) (G : Cfg) (M : Hp) (a : Addr) (W : Wt) (H : Hp) (Dn : Ends) : Option (Fl × S × Lv) → Prop
  | some (.next, s', L') => ∀ M' W' σ' H', Rel2 E i G M' a W' H' σ' s' L' → Fz (Av (hide G M a) W) (Av (hide G M' a) W') H H' → Dn.nx σ' H'
  | some (.brk, s', L') => ∀ M' W' σ' H', Rel2 E i G M' a W' H' σ' s' L' → Fz (Av (hide G M a) W) (Av (hide G M' a) W') H H' → Dn.bk σ' H'
  | some (.cont, s', L') => ∀ M' W' σ' H', Rel2 E i G M' a W' H' σ' s' L' → Fz (Av (hide G M a) W) (Av (hide G M' a) W') H H' → Dn.ct σ' H'
  | some (.ret d, _, _) => ∀ v H', (∀ x o, G.H0 x = some o → H' x = some o) → Rep E G.O H' v d → Dn.rt v H'
  | some (.retF _, _, _) => False
  | none => False
def SndS2 (E : Ev) (i : Nat) (t : TS) (F : Fs2) : Prop := ∀ G M a W σ H s L Dn, Rel2 E i G M a W H σ s L → Post2 E i G M a W H Dn (F s L) → t Dn σ H
structure VS2 (X : Cx) (i : Nat) (st : Stmt) (F : Fs2) : Prop where
  ex : ∃ t, PS X st t ∧ SndS2 (evX X) i t F
structure VB2 (X : Cx) (i : Nat) (st : List Stmt) (F : Fs2) : Prop where
  ex : ∃ t, PSs X st t ∧ SndS2 (evX X) i t F
section
variable {E : Ev} {i : Nat} {G : Cfg} {M M' : Hp} {a : Addr} {W W' : Wt} {H H' : Hp} {σ σ' : L2.St} {s s' : S} {L L' : Lv} {Dn : Ends}
theorem Rel2.tn (R : Rel2 E i G M a W H σ s L) : W.tn = none := by
  have t := R.R.tow
  rw [R.tw] at t
  cases e : W.tn with
  | none => rfl
  | some q => rw [e] at t; exact t.elim
theorem Rel2.step (R : Rel2 E i G M a W H σ s L) (R' : Rel E (hide G M a) W' H' σ' s') (z : Fz (Av (hide G M a) W) (Av (hide G M a) W') H H') (tw : s'.tw = none) (pt : s'.rho[i]? = some .ptr) : Rel2 E i G M a W' H' σ' s' L := by
  obtain ⟨kvs, bs, h1, h2, h3⟩ := R.lv
  exact ⟨R', tw, R.fr, pt, R.kd, kvs, bs, h1, h2.fz z fun _ _ => rfl, h3⟩
theorem Post2.back {r : Option (Fl × S × Lv)} (z : Fz (Av (hide G M a) W) (Av (hide G M' a) W') H H') (p : Post2 E i G M a W H Dn r) : Post2 E i G M' a W' H' Dn r := by
  match r, p with
  | some (.next, s', L'), p => exact fun M2 W2 σ2 H2 R2 z2 => p M2 W2 σ2 H2 R2 (z.trans z2)
  | some (.brk, s', L'), p => exact fun M2 W2 σ2 H2 R2 z2 => p M2 W2 σ2 H2 R2 (z.trans z2)
  | some (.cont, s', L'), p => exact fun M2 W2 σ2 H2 R2 z2 => p M2 W2 σ2 H2 R2 (z.trans z2)
  | some (.ret d, s', L'), p => exact p
  | some (.retF d, s', L'), p => exact p
  | none, p => exact p
end
def lift2 (i : Nat) (F : Fs) : Fs2 := fun s L => match F s with
  | some (fl, s') => match s'.tw, s'.rho[i]? with
    | none, some .ptr => some (fl, s', L)
    | _, _ => none
  | none => none
section
variable {X : Cx} {i : Nat} {st : Stmt} {rest a b : List Stmt} {F : Fs} {F1 F2 : Fs2} {c tg e : Expr} {f : Fe} {fa : Fa} {pos : Pos}
theorem snd_lift {E : Ev} {t : TS} (sn : SndS E t F) : SndS2 E i t (lift2 i F) := by
  intro G M a W σ H s L Dn R po
  refine sn (hide G M a) W σ H s Dn R.R ?_
  unfold lift2 at po
  match e : F s, po with
  | none, po => exact po.elim
  | some (fl, s'), po =>
    dsimp only at po
    split at po
    · rename_i htw hpt
      cases fl with
      | next => exact fun W' σ' H' R' z k => po M W' σ' H' (R.step R' z htw hpt) z
      | brk => exact fun W' σ' H' R' z k => po M W' σ' H' (R.step R' z htw hpt) z
      | cont => exact fun W' σ' H' R' z k => po M W' σ' H' (R.step R' z htw hpt) z
      | retF d => exact po.elim
      | ret d =>
        intro W' v H' l k r
        have tn := left_none l htw
        refine po v H' (fun x o e => (fun he => l.fr x o he (l.pl.not tn he)) ?_) (r.weak fun x z => .inl (.inl z))
        show (M x).or (G.H0 x) = some o
        cases em : M x with
        | none => exact e
        | some o' =>
          have := (R.fr x (by rw [em]; exact fun z => nomatch z)).1
          rw [this] at e
          cases e
    · exact po.elim
theorem vs2_of (h : VS X st F) : VS2 X i st (lift2 i F) := by
  obtain ⟨t, p, sn⟩ := h.ex
  exact ⟨t, p, snd_lift sn⟩
theorem vb2_of (h : VB X rest F) : VB2 X i rest (lift2 i F) := by
  obtain ⟨t, p, sn⟩ := h.ex
  exact ⟨t, p, snd_lift sn⟩
def seq2 (F1 F2 : Fs2) : Fs2 := fun s L => match F1 s L with
  | some (.next, s1, L1) => F2 s1 L1
  | r => r
theorem vb2_cons (h1 : VS2 X i st F1) (h2 : VB2 X i rest F2) : VB2 X i (st :: rest) (seq2 F1 F2) := by
  obtain ⟨t, p, sn⟩ := h1.ex
  obtain ⟨u, q, sm⟩ := h2.ex
  refine ⟨_, pss_cons p q, fun G M a W σ H s L Dn R po => sn G M a W σ H s L { Dn with nx := u Dn } R ?_⟩
  unfold seq2 at po
  match e : F1 s L, po with
  | some (.next, s1, L1), po => exact fun M' W' σ' H' R' z => sm G M' a W' σ' H' s1 L1 Dn R' (Post2.back z po)
  | some (.brk, s1, L1), po => exact po
  | some (.cont, s1, L1), po => exact po
  | some (.ret d, s1, L1), po => exact po
  | some (.retF d, s1, L1), po => exact po
  | none, po => exact po
theorem vb2_one (h1 : VS2 X i st F1) : VB2 X i [st] F1 := by
  obtain ⟨t, p, sn⟩ := h1.ex
  exact ⟨_, pss_one p, sn⟩
/-- if, the test without the dict -/
def if2 (i : Nat) (c : Fe) (F1 F2 : Fs2) : Fs2 := fun s L => match c s with
  | some (.bool b, s1) => (match s1.tw, s1.rho[i]? with
    | none, some .ptr => if b = true then F1 s1 L else F2 s1 L
    | _, _ => none)
  | _ => none
theorem vs2_if (hc : VT X c f) (h1 : VB2 X i a F1) (h2 : VB2 X i b F2) : VS2 X i (.If c a b pos) (if2 i f F1 F2) := by
  obtain ⟨tc, pc, sc⟩ := hc.ex
  obtain ⟨t, p, sn⟩ := h1.ex
  obtain ⟨u, q, sm⟩ := h2.ex
  refine ⟨_, ps_if pc p q, fun G M a W σ H s L Dn R po => ?_⟩
  unfold if2 at po
  split at po
  · rename_i bb s1 e
    split at po
    · rename_i htw hpt
      refine sc (hide G M a) W σ H s bb s1 R.R e _ fun H1 R1 z1 => ?_
      have R2 := R.step R1 z1 htw hpt
      cases bb with
      | true =>
        rw [if_pos rfl] at po ⊢
        exact sn G M a W σ H1 s1 L Dn R2 (Post2.back z1 po)
      | false =>
        rw [if_neg Bool.false_ne_true] at po ⊢
        exact sm G M a W σ H1 s1 L Dn R2 (Post2.back z1 po)
    · exact po.elim
  · exact po.elim
/-! expressions with the dict -/
abbrev Fe2 := S → Lv → Option (D × Lv)
def SndE2 (E : Ev) (i : Nat) (t : TE) (f : Fe2) : Prop := ∀ G M a W σ H s L d L', Rel2 E i G M a W H σ s L → f s L = some (d, L') → ∀ Q : VK,
  (∀ M' v H', Rel2 E i G M' a W H' σ s L' → Fz (Av (hide G M a) W) (Av (hide G M' a) W) H H' → Rep E (Av (hide G M' a) W) H' v d → Q v H') → t σ H Q
structure VE2 (X : Cx) (i : Nat) (e : Expr) (f : Fe2) : Prop where
  ex : ∃ t, PE X e t ∧ SndE2 (evX X) i t f
def set2 (i j : Nat) (f : Fe2) : Fs2 := fun s L => if i = j then none else (f s L).map fun (d, L') => (.next, s.put j (.val d), L')
theorem put_at {s : S} {i j : Nat} {c0 : C} (h : i ≠ j) : (s.put j c0).rho[i]? = s.rho[i]? := by
  show (s.rho.set j c0)[i]? = _
  rw [List.getElem?_set_ne (Ne.symm h)]
theorem snd_set2 {E : Ev} {t : TE} {f2 : Fe2} {j : Nat} (h : SndE2 E i t f2) : SndS2 E i (tAsg t (gName j)) (set2 i j f2) := by
  intro G M a W σ H s L Dn R po
  unfold set2 at po
  split at po
  · exact po.elim
  · rename_i hij
    match e : f2 s L, po with
    | none, po => exact po.elim
    | some (d, L'), po =>
      refine h G M a W σ H s L d L' R e _ fun M' v H1 R1 z1 p1 => ?_
      have R2 := R1.R.put (i := j) p1
      exact po M' _ _ H1 (R1.step R2 fz_del R1.tw (by rw [put_at hij]; exact R1.pt)) (z1.trans fz_del)
theorem vs2_set {x : Str} {p' : Pos} {j : Nat} {f2 : Fe2} (h : VE2 X i e f2) (hN : X.N.Nodup) (hi : X.N[j]? = some x := by rfl) (hx : Loc X.env.scope x := by first | exact Or.inl rfl | exact Or.inr rfl) (hs : swapsWith e (some (.Name x p')) pos.line X.env = pure false := by rfl) (hf : X.fn x = true ∨ X.env.scope.names.lookup x = some .local := by first | exact .inl rfl | exact .inr rfl) :
    VS2 X i (.Assign [.Name x p'] e pos) (set2 i j f2) := by
  obtain ⟨t, p, sn⟩ := h.ex
  exact ⟨_, ps_set hN hi hx p hs hf, snd_set2 sn⟩
/-! for -/
def loop2 (g : Fg) (F : Fs2) : List D → S → Lv → Option (Fl × S × Lv)
  | [], s, L => some (.next, s, L)
  | d :: r, s, L => (g d s).bind fun s1 => match F s1 L with
    | some (.next, s2, L2) => loop2 g F r s2 L2
    | some (.cont, s2, L2) => loop2 g F r s2 L2
    | some (.brk, s2, L2) => some (.next, s2, L2)
    | x => x
theorem loop2_step {E : Ev} {t : TS} {F : Fs2} {G : Cfg} {M : Hp} {a : Addr} {W : Wt} {H : Hp} {σ : L2.St} {s : S} {L : Lv} {Dn : Ends} {Nx : L2.St → Hp → Prop} {r : S → Lv → Option (Fl × S × Lv)} (sn : SndS2 E i t F) (R : Rel2 E i G M a W H σ s L)
    (po : Post2 E i G M a W H Dn (match F s L with
      | some (.next, s2, L2) => r s2 L2
      | some (.cont, s2, L2) => r s2 L2
      | some (.brk, s2, L2) => some (.next, s2, L2)
      | x => x))
    (hn : ∀ M' W' σ' H' s' L', Rel2 E i G M' a W' H' σ' s' L' → Fz (Av (hide G M a) W) (Av (hide G M' a) W') H H' → Post2 E i G M' a W' H' Dn (r s' L') → Nx σ' H') : t { Dn with nx := Nx, ct := Nx, bk := Dn.nx } σ H := by
  refine sn G M a W σ H s L _ R ?_
  match e : F s L, po with
  | some (.next, s1, L1), po => exact fun M' W' σ' H' R' z => hn M' W' σ' H' s1 L1 R' z (Post2.back z po)
  | some (.cont, s1, L1), po => exact fun M' W' σ' H' R' z => hn M' W' σ' H' s1 L1 R' z (Post2.back z po)
  | some (.brk, s1, L1), po => exact po
  | some (.ret d, s1, L1), po => exact po
  | some (.retF d, s1, L1), po => exact po
  | none, po => exact po.elim
abbrev Fi2 := S → Lv → Option (List D × S × Lv)
def SndI2 (E : Ev) (i : Nat) (t : TI) (f : Fi2) : Prop := ∀ G M a W σ H s L ds s' L', Rel2 E i G M a W H σ s L → f s L = some (ds, s', L') → ∀ R : It → Hp → Prop,
  (∀ M1 J H1 Gd Y, Rel2 E i G M1 a W H1 σ s' L' → Fz (Av (hide G M a) W) (Av (hide G M1 a) W) H H1 → Wlk E (Av (hide G M1 a) W) H1 J ds Gd Y → R J H1) → t σ H R
structure VI2 (X : Cx) (i : Nat) (tg e : Expr) (f : Fi2) : Prop where
  ex : ∃ t, PI X tg e t ∧ SndI2 (evX X) i t f
def it2 (i : Nat) (fi : Fa) : Fi2 := fun s L => match fi s with
  | some (ds, s1) => match s1.tw, s1.rho[i]? with
    | none, some .ptr => some (ds, s1, L)
    | _, _ => none
  | none => none
def for2 (i : Nat) (fi : Fi2) (g : Fg) (F : Fs2) : Fs2 := fun s L => (fi s L).bind fun (ds, s1, L1) => loop2 (fun d s => (g d s).bind fun s1 => match s1.tw, s1.rho[i]? with
  | none, some .ptr => some s1
  | _, _ => none) F ds s1 L1
theorem vs2_for {body : List Stmt} {g : Fg} {F : Fs2} {fi : Fi2} (hp : PassesOwn (model X.prog X.w) X.A X.env X.xe) (hc : X.calm = true) (hi : VI2 X i tg e fi) (hg : VG X tg g) (hb : VB2 X i body F) (hs : ∀ x, foldedSetIterable e X.env x = pure x := by intro _; rfl) :
    VS2 X i (.For tg e body [] pos) (for2 i fi g F) := by
  obtain ⟨ti, pi, si⟩ := hi.ex
  obtain ⟨tg', pg, sg⟩ := hg.ex
  obtain ⟨tb, pb, sb⟩ := hb.ex
  refine ⟨_, ps_for hp hc pi pg pb hs, fun G M a W σ H s L Dn R po => ?_⟩
  unfold for2 at po
  match e1 : fi s L, po with
  | none, po => exact po.elim
  | some (ds, s0, L1), po =>
    dsimp only [Option.bind] at po
    refine si G M a W σ H s L ds s0 L1 R e1 _ fun M1 J H1 Gd Y R1 z1 wl => ?_
    refine for_it wl.walk (fun j σ' H' => ∃ M' W' s' L', Rel2 (evX X) i G M' a W' H' σ' s' L' ∧ Fz (Av (hide G M1 a) W) (Av (hide G M' a) W') H1 H' ∧ Post2 (evX X) i G M' a W' H' Dn (loop2 _ F (ds.drop j) s' L')) ⟨M1, W, s0, L1, R1, Fz.refl, Post2.back z1 po⟩ ?_ ?_ ?_
    · rintro j σ' H' hi' ⟨M', W', s', L', R', z, _⟩
      exact wl.keep _ H' z
    · rintro j x σ' H' H'' hi' ⟨M', W', s', L', R', z, p⟩ hy
      obtain ⟨sm, d, hd, rd⟩ := wl.item _ j H' x H'' z R'.R.fre hi' hy
      have R2 := R'.R.same sm
      have z2 : Fz (Av (hide G M' a) W') (Av (hide G M' a) W') H' H'' := Fz.of_same sm
      have p2 := Post2.back z2 p
      rw [List.drop_eq_getElem_cons hi'] at p2
      have ed : ds[j] = d := by rw [List.getElem?_eq_getElem hi'] at hd; exact Option.some.inj hd
      rw [ed] at p2
      unfold loop2 at p2
      match e2 : g d s', p2 with
      | none, p2 => exact p2.elim
      | some s2, p2 =>
        dsimp only [Option.bind] at p2
        match e3 : s2.tw, e4 : s2.rho[i]?, p2 with
        | none, some .ptr, p2 =>
          dsimp only at p2
          refine sg (hide G M' a) W' σ' H'' s' x d s2 R2 rd e2 _ fun W3 σ3 R3 a3 k3 => ?_
          have z3 : Fz (Av (hide G M' a) W') (Av (hide G M' a) W3) H'' H'' := Fz.weak a3
          have p3 := Post2.back z3 p2
          exact loop2_step sb (R'.step R3 (z2.trans z3) e3 e4) p3 fun M4 W4 σ4 H4 s4 L4 R4 z4 p4 => ⟨M4, W4, s4, L4, R4, ((z.trans z2).trans z3).trans z4, p4⟩
        | some _, _, p2 => exact p2.elim
        | none, none, p2 => exact p2.elim
        | none, some .no, p2 => exact p2.elim
        | none, some (.val _), p2 => exact p2.elim
        | none, some (.own _), p2 => exact p2.elim
        | none, some .tn, p2 => exact p2.elim
        | none, some .rw, p2 => exact p2.elim
        | none, some .any, p2 => exact p2.elim
        | none, some (.pln _), p2 => exact p2.elim
    · rintro σ' H' ⟨M', W', s', L', R', z, p⟩
      rw [List.drop_length] at p
      exact p M' W' σ' H' R' Fz.refl
end
end Fx
-- Fl2
namespace Fx
open PySem PySem.Spec L2
/-! ### what is done with the dict of lists -/
theorem vi2_of {X : Cx} {i : Nat} {tg e : Expr} {fa : Fa} (h : VI X tg e fa) : VI2 X i tg e (it2 i fa) := by
  obtain ⟨t, p, sn⟩ := h.ex
  refine ⟨t, p, fun G M a W σ H s L ds s' L' R hf Rq hR => ?_⟩
  unfold it2 at hf
  match e1 : fa s, hf with
  | none, hf => cases hf
  | some (ds1, s1), hf =>
    dsimp only at hf
    split at hf
    · rename_i htw hpt
      cases hf
      exact sn (hide G M a) W σ H s _ _ R.R e1 _ fun J H1 Gd Y R1 z1 wl => hR M J H1 Gd Y (R.step R1 z1 htw hpt) z1 wl
    · cases hf
section
variable {E : Ev} {i : Nat} {G : Cfg} {M : Hp} {a p : Addr} {W : Wt} {H : Hp} {σ : L2.St} {s : S} {L : Lv} {o : HO}
/-- an object that is not hidden comes -/
theorem Rel2.keeps {H' : Hp} (R : Rel2 E i G M a W H σ s L) (k : ∀ b o, H b = some o → H' b = some o) : Rel2 E i G M a W H' σ s L :=
  R.step (R.R.keeps k) (Fz.of_same k) R.tw R.pt
theorem Rel2.slot (R : Rel2 E i G M a W H σ s L) : σ[i]? = some (some (.ref a)) := R.R.ptc i R.pt
theorem Rel2.not_own (R : Rel2 E i G M a W H σ s L) {b : Addr} (hb : M b ≠ none) (h1 : ¬ G.O b) : ¬ Av (hide G (hdel M b) a) W b := by
  rintro ((z | z) | ⟨j, z⟩ | z)
  · exact h1 z
  · exact z hdel_same
  · have q : (M b).or (G.H0 b) = none := (R.R.dom j b z).1
    cases e : M b with
    | none => exact hb e
    | some o => rw [e] at q; cases q
  · obtain ⟨o, e⟩ := Option.ne_none_iff_exists'.mp hb
    exact R.R.pl.not (o := o) R.tn (by show (M b).or _ = _; rw [e]; rfl) z
end
/-! levels.pop(cost) -/
def pop2 (j : Nat) : Fe2 := fun s L => match s.rho[j]? with
  | some (.val (.int c)) => (lookL c L).map fun ds => (.list ds, dropL c L)
  | _ => none
section
variable {X : Cx} {i j : Nat} {x y : Str} {p p1 p2 p3 pos : Pos} {e : Expr}
theorem snd_pop {E : Ev} : SndE2 E i (tDPop1 (tVar i) (tVar j)) (pop2 j) := by
  intro G M a W σ H s L d L' R hf Q hq
  unfold pop2 at hf
  split at hf
  · rename_i c ec
    rw [Option.map_eq_some_iff] at hf
    obtain ⟨ds, h1, h2⟩ := hf
    cases h2
    obtain ⟨kvs, bs, ha, lv, nd⟩ := R.lv
    obtain ⟨n1, n2⟩ := List.nodup_cons.mp nd
    have Ha := hid_at R.R R.tn ha
    obtain ⟨b, xs, q1, q2, q3, q4⟩ := lv.look h1
    have hba : b ≠ a := fun z => n1 (by rw [← z]; exact q2)
    obtain ⟨v, ev, rv⟩ := R.R.val j _ ec
    cases rv
    refine ⟨_, R.slot, a, rfl, .inl ⟨kvs, .inl Ha⟩, _, ev, kvs, .inl c, .ref b, Ha, rfl, q1, ?_⟩
    have fb := R.fr b (by rw [q3]; exact fun z => nomatch z)
    have R1 := hid_put (o' := .dK (dropK kvs (.inl c))) R.R R.tn ha
    have R2 := hid_del (p := b) (o := .lst xs) R1 (by rw [upd_ne hba]; exact q3) fb.1
    obtain ⟨bs', s1, s2, s3⟩ := lv.drop (c := c)
    have hM : ∀ x, hdel (upd M a (.dK (dropK kvs (.inl c)))) b x ≠ none → M x ≠ none := fun x z => by
      by_cases e1 : x = b
      · rw [e1, hdel_same] at z; exact absurd rfl z
      · rw [hdel_ne e1] at z
        by_cases e2 : x = a
        · rw [e2, ha]; exact fun z => nomatch z
        · rw [upd_ne e2] at z; exact z
    have fz : Fz (Av (hide G M a) W) (Av (hide G (hdel (upd M a (.dK (dropK kvs (.inl c)))) b) a) W) H (upd H a (.dK (dropK kvs (.inl c)))) := fun x o n e => by
      refine ⟨fun z => n ?_, by rw [upd_ne (fun z => n (by rw [z]; exact hid_av (by rw [ha]; exact fun z => nomatch z)))]; exact e⟩
      rcases z with (z | z) | z
      · exact .inl (.inl z)
      · exact .inl (.inr (hM x z))
      · exact .inr z
    refine hq _ (.ref b) _ ⟨R2, R.tw, fun x z => R.fr x (hM x z), R.pt, (drop_keys L).nodup R.kd, dropK kvs (.inl c), bs', ?_, ?_, ?_⟩ fz ?_
    · rw [hdel_ne (Ne.symm hba), upd_same]
    · refine s2.fz fz fun b' hb' => ?_
      have m := s1.mem hb'
      rw [hdel_ne (fun z => s3 b q1 n2 (by rw [← z]; exact hb')), upd_ne (fun z => n1 (by rw [← z]; exact m))]
    · exact List.nodup_cons.mpr ⟨fun z => n1 (s1.mem z), s1.nodup n2⟩
    · have Hb := hid_at R.R R.tn q3
      refine .lst ?_ (by rw [upd_ne hba]; exact Hb) (q4.fz fz)
      rintro ((z | z) | ⟨k, z⟩ | z)
      · exact fb.2 z
      · exact z hdel_same
      · have q : (M b).or (G.H0 b) = none := (R.R.dom k b z).1
        rw [q3] at q; cases q
      · exact R.R.pl.not (o := .lst xs) R.tn (by show (M b).or _ = _; rw [q3]; rfl) z
  · cases hf
theorem ve2_pop (i j : Nat) (nx : NV X i x) (ny : NV X j y) (m : M1 X (.Name x p) "pop" p1 (.Name y p2) pos) : VE2 X i (.Call (.Attribute (.Name x p) "pop" p1) [.Name y p2] [] pos) (pop2 j) :=
  ⟨_, pe_dpop1 (pe_var nx.hN nx.hv nx.hd nx.hcd) (pe_var ny.hN ny.hv ny.hd ny.hcd) m, snd_pop⟩
/-! min(levels) -/
def minKs : List Int → Option Int
  | [] => none
  | k :: ks => some (ks.foldl (fun a b => if b < a then b else a) k)
theorem minKs_some {is : List Int} {m : Int} (h : minKs is = some m) : m ∈ is ∧ ∀ j ∈ is, m ≤ j := by
  cases is with
  | nil => cases h
  | cons k ks => cases h; exact foldl_min ks k
def min2 : Fe2 := fun _ L => (minKs (L.map (·.1))).map fun m => (.int m, L)
theorem snd_min2 {E : Ev} : SndE2 E i (tCB rMinK (tCons (tVar i) tNil)) min2 := by
  intro G M a W σ H s L d L' R hf Q hq
  unfold min2 at hf
  rw [Option.map_eq_some_iff] at hf
  obtain ⟨m, h1, h2⟩ := hf
  cases h2
  obtain ⟨kvs, bs, ha, lv, nd⟩ := R.lv
  obtain ⟨m1, m2⟩ := minKs_some h1
  refine ⟨_, R.slot, a, kvs, L.map (·.1), rfl, hid_at R.R R.tn ha, lv.keys, fun z => ?_, fun m' h3 h4 => ?_⟩
  · rw [z] at m1; cases m1
  · have e : m' = m := Int.le_antisymm (h4 m m1) (m2 m' h3)
    subst e
    exact hq M _ H R Fz.refl (.int _)
theorem ve2_min (i : Nat) (hc : X.calm = true) (hg : Gl X "min") (hm : X.mg "min" = none) (nx : NV X i x) (hv : bootBuiltins "min" = some (.builtin "min") := by decide +kernel) (ns : NS X (.Name x p) [] pos := by exact ⟨rfl, rfl⟩) : VE2 X i (.Call (.Name "min" p1) [.Name x p] [] pos) min2 :=
  ⟨_, pe_callB (cr_minK hc) hg hm hv (pa_cons (pe_var nx.hN nx.hv nx.hd nx.hcd) pa_nil ns.he) (by decide) (by decide) ns.he ns.hpl, snd_min2⟩
/-! sorted(e) -/
def sort2 (f : Fe2) : Fe2 := fun s L => (f s L).bind fun (d, L') => (sortedD [d]).map fun z => (z, L')
theorem ve2_sorted {f : Fe2} (hu : X.A.units + 64 < cLine) (hg : Gl X "sorted") (hm : X.mg "sorted" = none) (h : VE2 X i e f) (hv : bootBuiltins "sorted" = some (.builtin "sorted") := by decide +kernel) (ns : NS X e [] pos := by exact ⟨rfl, rfl⟩) : VE2 X i (.Call (.Name "sorted" p1) [e] [] pos) (sort2 f) := by
  obtain ⟨t, pe, sn⟩ := h.ex
  refine ⟨_, pe_callB (cr_sortD hu) hg hm hv (pa_cons pe pa_nil ns.he) (by decide) (by decide) ns.he ns.hpl, fun G M a W σ H s L d L' R hf Q hq => ?_⟩
  unfold sort2 at hf
  simp only [Option.bind_eq_some_iff, Option.map_eq_some_iff] at hf
  obtain ⟨⟨d0, L0⟩, e0, z, e1, e2⟩ := hf
  cases e2
  refine sn G M a W σ H s L d0 _ R e0 _ fun M1 v H1 R1 z1 p1 => ?_
  unfold sortedD at e1
  split at e1
  · rename_i ys eq
    cases eq
    split at e1
    · rename_i hc
      cases e1
      cases p1 with
      | lst n1 g1 r1 =>
        rename_i b vs
        refine ⟨b, vs, ys, rfl, SqL.of g1, r1.dp (shaped_canLay hc.2.2), hc.1, hc.2.1, hc.2.2, fun q hn => ?_⟩
        have k : ∀ c o, H1 c = some o → (upd H1 q (.lst (((vs.zip ys).mergeSort (PySem.W.dataLe false (·.2))).map (·.1)))) c = some o := fun c o e => by rw [upd_ne (ne_of_none e hn)]; exact e
        refine hq M1 _ _ (R1.keeps k) (z1.trans (Fz.of_same k)) (.lst (R1.R.free hn) upd_same ?_)
        rw [← sort_snd r1.length]
        exact Reps.of_pairs fun c hc => (r1.fz (Fz.of_same k)).zip c (List.mem_mergeSort.mp hc)
    · cases e1
  · cases e1
  · cases e1
/-! walks -/
def seqI2 (f : Fe2) : Fi2 := fun s L => match f s L with
  | some (.list ds, L') => some (ds, s, L')
  | _ => none
theorem vi2_seq {tg : Expr} {f : Fe2} (h : VE2 X i e f) : VI2 X i tg e (seqI2 f) := by
  obtain ⟨t, pe, sn⟩ := h.ex
  refine ⟨_, pi_seq pe, fun G M a W σ H s L ds s' L' R hf Rq hR => ?_⟩
  unfold seqI2 at hf
  split at hf
  · rename_i ds0 L0 e0
    cases hf
    refine sn G M a W σ H s L _ _ R e0 _ fun M1 v H1 R1 z1 p1 => ?_
    cases p1 with
    | lst n1 e4 r1 =>
      rename_i b xs
      refine ⟨b, rfl, .inl ⟨⟨xs, SqL.of e4⟩, hR M1 _ H1 (fun H => SqL (evX X).K H b xs) (YAt xs) R1 z1 ⟨by rw [← r1.length]; exact walk_list, fun B H' z => SqL.of (z _ _ n1 e4).2, fun B i H' y H'' z fr hi hy => ?_⟩⟩⟩
      obtain ⟨rfl, hx⟩ := hy
      obtain ⟨v, h1, h2⟩ := r1.get (List.getElem?_eq_getElem hi)
      rw [hx] at h1; cases h1
      exact ⟨Same.refl _, _, List.getElem?_eq_getElem hi, h2.fz z⟩
  · cases hf
/-! levels.setdefault(far, []) -/
def setd2 (j : Nat) : Fs2 := fun s L => match s.rho[j]? with
  | some (.val (.int c)) => if L.length < 100000 then some (.next, s, setL c L) else none
  | _ => none
theorem vs2_setd (i j : Nat) (nx : NV X i x) (ny : NV X j y) (m : M2 X (.Name x p) "setdefault" p1 (.Name y p2) (.List [] p3) pos) (hs : swapsWith (.Call (.Attribute (.Name x p) "setdefault" p1) [.Name y p2, .List [] p3] [] pos) none pos.line X.env = pure false := by rfl) :
    VS2 X i (.Expr (.Call (.Attribute (.Name x p) "setdefault" p1) [.Name y p2, .List [] p3] [] pos) pos) (setd2 j) := by
  refine ⟨_, ps_expr (pe_dsetd (pe_var nx.hN nx.hv nx.hd nx.hcd) (pe_var ny.hN ny.hv ny.hd ny.hcd) (pe_lst pa_nil) m) hs, fun G M a W σ H s L Dn R po => ?_⟩
  unfold setd2 at po
  split at po
  · rename_i c ec
    split at po
    · rename_i hl
      obtain ⟨kvs, bs, ha, lv, nd⟩ := R.lv
      obtain ⟨n1, n2⟩ := List.nodup_cons.mp nd
      have Ha := hid_at R.R R.tn ha
      obtain ⟨v, ev, rv⟩ := R.R.val j _ ec
      cases rv
      refine ⟨_, R.slot, a, rfl, .inl ⟨kvs, .inl Ha⟩, _, ev, Nat.zero_le _, fun q hn => ?_⟩
      have hqa : q ≠ a := fun z => by rw [z, Ha] at hn; cases hn
      have k : ∀ b o, H b = some o → (upd H q (.lst [])) b = some o := fun b o e => by rw [upd_ne (ne_of_none e hn)]; exact e
      refine ⟨kvs, .inl c, k _ _ Ha, rfl, line_lt (by rw [lv.length]; exact hl), fun w hw => ?_, fun hno => ?_⟩
      · refine po M W σ _ ?_ (Fz.of_same k)
        have e1 : setL c L = L := by
          unfold setL
          split
          · rfl
          · rename_i e; rw [lv.none e] at hw; cases hw
        rw [e1]
        exact R.keeps k
      · have e1 : setL c L = L ++ [(c, [])] := by
          unfold setL
          split
          · rename_i e
            obtain ⟨b, xs, q1, _⟩ := lv.look e
            rw [hno] at q1; cases q1
          · rfl
        rw [e1] at po
        have R1 := hid_new (o := .lst []) R.R hn
        have hq0 : M q = none := by
          cases e : M q with
          | none => rfl
          | some o => rw [hid_at R.R R.tn e] at hn; cases hn
        have R2 := hid_put (p := a) (o := .dK kvs) (o' := .dK (putK kvs (.inl c) (.ref q))) R1 R.tn (by rw [upd_ne (Ne.symm hqa)]; exact ha)
        have ep : putK kvs (.inl c) (.ref q) = kvs ++ [(.inl c, .ref q)] := by
          have any : (kvs.any fun kv => decide (kv.1 = (.inl c : Key))) = false := by
            rw [List.any_eq_false]
            intro kv hkv z
            unfold valV at hno
            rw [Option.map_eq_none_iff, List.find?_eq_none] at hno
            exact hno kv hkv z
          unfold putK
          rw [any]
          simp
        rw [ep] at R2 ⊢
        have hM : ∀ x, upd (upd M q (.lst [])) a (.dK (kvs ++ [(.inl c, .ref q)])) x ≠ none → M x ≠ none ∨ x = q := fun x z => by
          by_cases e2 : x = a
          · exact .inl (by rw [e2, ha]; exact fun z => nomatch z)
          · rw [upd_ne e2] at z
            by_cases e3 : x = q
            · exact .inr e3
            · rw [upd_ne e3] at z; exact .inl z
        have fz : Fz (Av (hide G M a) W) (Av (hide G (upd (upd M q (.lst [])) a (.dK (kvs ++ [(.inl c, .ref q)]))) a) W) H (upd (upd H q (.lst [])) a (.dK (kvs ++ [(.inl c, .ref q)]))) := fun x o n e => by
          refine ⟨fun z => n ?_, by rw [upd_ne (fun z => n (by rw [z]; exact hid_av (by rw [ha]; exact fun z => nomatch z)))]; exact k x o e⟩
          rcases z with (z | z) | z
          · exact .inl (.inl z)
          · rcases hM x z with z | z
            · exact .inl (.inr z)
            · rw [z, hn] at e; cases e
          · exact .inr z
        refine po _ W σ _ ⟨R2, R.tw, fun x z => ?_, R.pt, by rw [← e1]; exact set_keys R.kd, _, bs ++ [q], upd_same, ?_, ?_⟩ fz
        · rcases hM x z with z | z
          · exact R.fr x z
          · rw [z]
            have h0 := R.R.fresh0 hn
            refine ⟨?_, fun y => R.R.free hn (.inl (.inl y))⟩
            have : (M q).or (G.H0 q) = none := h0
            rw [hq0] at this
            exact this
        · refine LvE.snoc (lv.fz fz fun b hb => ?_) (by rw [upd_ne hqa, upd_same]) .nil
          have hb0 := lv.mem b hb
          rw [upd_ne (fun z => n1 (by rw [← z]; exact hb)), upd_ne (fun z => hb0 (by rw [z]; exact hq0))]
        · refine List.nodup_cons.mpr ⟨fun z => ?_, ?_⟩
          · rcases List.mem_append.mp z with z | z
            · exact n1 z
            · simp at z; exact hqa z.symm
          · rw [List.nodup_append]
            refine ⟨n2, by simp, fun u hu w hw z => ?_⟩
            simp at hw
            subst hw
            exact lv.mem u hu (by rw [z]; exact hq0)
    · exact po.elim
  · exact po.elim
/-! levels[far].append(there) -/
def app2 (j l : Nat) : Fs2 := fun s L => match s.rho[j]?, s.rho[l]? with
  | some (.val (.int c)), some (.val d) => (match lookL c L with
    | some ds => if ds.length < 100000 then some (.next, s, appL c d L) else none
    | none => none)
  | _, _ => none
theorem vs2_app (i j l : Nat) {z : Str} {p4 p5 : Pos} (hu : X.A.units + 1 < cLine) (nx : NV X i x) (ny : NV X j y) (nz : NV X l z) (nm : NM X (.Subscript (.Name x p) (.Name y p2) p4) "append" (.Name z p3) [] p1 pos) (hs : swapsWith (.Call (.Attribute (.Subscript (.Name x p) (.Name y p2) p4) "append" p1) [.Name z p3] [] pos) none p5.line X.env = pure false := by rfl) (hn : NoSl (.Name y p2) := by exact fun _ _ => rfl) :
    VS2 X i (.Expr (.Call (.Attribute (.Subscript (.Name x p) (.Name y p2) p4) "append" p1) [.Name z p3] [] pos) p5) (app2 j l) := by
  refine ⟨_, ps_expr (pe_bm PySem.F.plainAttrs_list PySem.F.slot_list_append PySem.F.type_list_append mt_append (pe_dget hu (pe_var nx.hN nx.hv nx.hd nx.hcd) (pe_var ny.hN ny.hv ny.hd ny.hcd) hn) (pa_cons (pe_var nz.hN nz.hv nz.hd nz.hcd) pa_nil nm.hs) nm.hbase nm.hfew nm.hline nm.hs nm.hplain) hs, fun G M a W σ H s L Dn R po => ?_⟩
  unfold app2 at po
  split at po
  · rename_i c d ec ed
    split at po
    · rename_i ds el
      split at po
      · rename_i hl
        obtain ⟨kvs, bs, ha, lv, nd⟩ := R.lv
        obtain ⟨n1, n2⟩ := List.nodup_cons.mp nd
        have Ha := hid_at R.R R.tn ha
        obtain ⟨v, ev, rv⟩ := R.R.val j _ ec
        cases rv
        obtain ⟨w, ew, rw'⟩ := R.R.val l _ ed
        obtain ⟨b, xs, q1, q2, q3, q4⟩ := lv.look el
        have Hb := hid_at R.R R.tn q3
        have hba : b ≠ a := fun z => n1 (by rw [← z]; exact q2)
        refine ⟨_, R.slot, _, ev, a, .ref b, rfl, ?_, ?_⟩
        · have g := DGet.k (k := .inl c) Ha
          rw [q1] at g
          exact g
        refine ⟨.inl ⟨rfl, _, SqL.of Hb⟩, w, ew, b, xs, w, rfl, rfl, Hb, line_lt (by rw [q4.length]; exact hl), ?_⟩
        have R1 := hid_put (p := b) (o' := .lst (xs ++ [w])) R.R R.tn q3
        have fz : Fz (Av (hide G M a) W) (Av (hide G (upd M b (.lst (xs ++ [w]))) a) W) H (upd H b (.lst (xs ++ [w]))) := fun x o n e => by
          have hxb : x ≠ b := fun z => n (by rw [z]; exact hid_av (by rw [q3]; exact fun z => nomatch z))
          refine ⟨fun z => n ?_, by rw [upd_ne hxb]; exact e⟩
          rcases z with (z | z) | z
          · exact .inl (.inl z)
          · exact .inl (.inr (by rw [upd_ne hxb] at z; exact z))
          · exact .inr z
        refine po _ W σ _ ⟨R1, R.tw, fun x z => R.fr x ?_, R.pt, by rw [app_keys]; exact R.kd, kvs, bs, ?_, ?_, nd⟩ fz
        · by_cases e : x = b
          · rw [e, q3]; exact fun z => nomatch z
          · rw [upd_ne e] at z; exact z
        · rw [upd_ne (Ne.symm hba)]; exact ha
        · exact lv.app n2 q1 q3 fz (rw'.fz fz)
      · exact po.elim
    · exact po.elim
  · exact po.elim
/-! while levels != {} -/
def rNe0 : R2 := fun x y H Q => ∃ a b ks, x = .ref a ∧ y = .ref b ∧ H a = some (.dK ks) ∧ H b = some (.dK []) ∧ Q (.bl (!ks.isEmpty)) H
theorem op_ne0 (hu : X.A.units < cLine) : OpR X (compareOp .NotEq) rNe0 := by
  intro pins s σ H x y v u Q I rx ry h
  obtain ⟨a, b, ks, rfl, rfl, ea, eb, q⟩ := h
  obtain rfl : v = Value.ref a := rx
  obtain rfl : u = Value.ref b := ry
  obtain ⟨_, ya, va, ra, da⟩ := (show ObjOk X.prog X.w H s.heap a (.dK ks) from I.hok a _ ea)
  obtain ⟨_, yb, vb, rb, db⟩ := (show ObjOk X.prog X.w H s.heap b (.dK []) from I.hok b _ eb)
  have l1 : ks.length = va.length := ra.length
  have l2 : ([] : List (Key × V)).length = vb.length := rb.length
  refine PySem.W.keq_ne (knd := mixKind X.prog X.w) (r := true) ya yb da db hu (fun e => hits_all rb ra fun p hp => ?_) (fin_bl I q ?_)
  · have : ks.length = 0 := by rw [l1, e, ← l2]; rfl
    rw [List.length_eq_zero_iff.mp this] at hp
    cases hp
  · rw [← l1, ← l2]
    cases ks <;> rfl
def while2 (F : Fs2) : Nat → S → Lv → Option (Fl × S × Lv)
  | 0, _, _ => none
  | n + 1, s, L => if L.isEmpty = true then some (.next, s, L) else match F s L with
    | some (.next, s2, L2) => while2 F n s2 L2
    | some (.cont, s2, L2) => while2 F n s2 L2
    | some (.brk, s2, L2) => some (.next, s2, L2)
    | x => x
theorem vs2_while (n i : Nat) {body : List Stmt} {F : Fs2} (hp : PassesOwn (model X.prog X.w) X.A X.env X.xe) (hu : X.A.units < cLine) (nx : NV X i x) (hb : VB2 X i body F) : VS2 X i (.While (.Compare (.Name x p) [.NotEq] [.Dict [] [] p1] p2) body [] pos) (while2 F n) := by
  obtain ⟨tb, pb, sb⟩ := hb.ex
  refine ⟨_, ps_while hp (pt_cmpR (op_ne0 hu) (pe_var nx.hN nx.hv nx.hd nx.hcd) pe_dnewK (nomark _)) pb, fun G M a W σ H s L Dn R po => ?_⟩
  refine ⟨fun m σ' H' => ∃ M' W' s' L', Rel2 (evX X) i G M' a W' H' σ' s' L' ∧ Post2 (evX X) i G M' a W' H' Dn (while2 F m s' L'), ⟨n, M, W, s, L, R, po⟩, ?_⟩
  rintro m σ' H' ⟨M', W', s', L', R', q⟩
  match m, q with
  | 0, q => exact q.elim
  | m + 1, q =>
    unfold while2 at q
    obtain ⟨kvs, bs, ha, lv, nd⟩ := R'.lv
    have Ha := hid_at R'.R R'.tn ha
    refine ⟨_, R'.slot, fun r hr => ?_⟩
    have k : ∀ b o, H' b = some o → (upd H' r (.dK [])) b = some o := fun b o e => by rw [upd_ne (ne_of_none e hr)]; exact e
    have R1 := R'.keeps k
    refine ⟨a, r, kvs, rfl, rfl, k _ _ Ha, upd_same, !kvs.isEmpty, rfl, ?_⟩
    have el : kvs.isEmpty = L'.isEmpty := by
      have := lv.length
      cases kvs <;> cases L' <;> simp at this ⊢
    rw [el]
    cases hL : L'.isEmpty with
    | true =>
      rw [if_pos hL] at q
      dsimp only
      rw [Bool.not_true, if_neg Bool.false_ne_true]
      exact q M' W' σ' _ R1 (Fz.of_same k)
    | false =>
      rw [hL, if_neg Bool.false_ne_true] at q
      dsimp only
      rw [Bool.not_false, if_pos rfl]
      refine ⟨fun σ2 H2 => ∃ M2 W2 s2 L2, Rel2 (evX X) i G M2 a W2 H2 σ2 s2 L2 ∧ Post2 (evX X) i G M2 a W2 H2 Dn (while2 F m s2 L2), fun σ2 H2 h => ⟨m, Nat.lt_succ_self m, h⟩, ?_⟩
      exact loop2_step sb R1 (Post2.back (Fz.of_same k) q) fun M4 W4 σ4 H4 s4 L4 R4 z4 p4 => ⟨M4, W4, s4, L4, R4, p4⟩
end
/-! levels = {0: [start]} and what stands behind it -/
section
variable {E : Ev} {G : Cfg} {W : Wt} {H : Hp} {σ : L2.St} {s : S} {i : Nat}
theorem Rel.hide0 (R : Rel E G W H σ s) (p : Addr) (np : ∀ k : Nat, s.rho[k]? ≠ some C.ptr) : Rel E (hide G (fun _ => none) p) W H σ s := by
  have av : ∀ x, Av (hide G (fun _ => none) p) W x → Av G W x := fun x => fun
    | .inl (.inl z) => .inl z
    | .inl (.inr z) => absurd rfl z
    | .inr z => .inr z
  exact {
    len := R.len
    fr := fun a o h t => R.fr a o h t
    val := fun i d h => let ⟨v, e, q⟩ := R.val i d h; ⟨v, e, q.weak av⟩
    own := fun i d h => let ⟨a, e1, e2, q⟩ := R.own i d h; ⟨a, e1, e2, q.fz (Fz.weak av) fun _ e => e⟩
    dom := fun i a h => by
      obtain ⟨h1, h2, h3, h4⟩ := R.dom i a h
      refine ⟨h1, h2, ?_, h4⟩
      rintro (z | z)
      · exact h3 z
      · exact z rfl
    inj := R.inj
    obj := fun a => fun
      | .inl z => R.obj a z
      | .inr z => absurd rfl z
    tow := R.tow
    tnc := R.tnc
    rwc := R.rwc
    noc := R.noc
    ptc := fun k h => absurd h (np k)
    pl := R.pl.h0 fun a _ e => e
    plc := fun i d h => (R.plc i d h).step (Fz.weak av) fun _ _ _ e => e }
theorem Rel.putP (R : Rel E G W H σ s) (hi : s.rho[i]? = some .no) : Rel E G W H (σ.set i (some (.ref G.pt))) (s.put i .ptr) where
  len := by simp [S.put, R.len]
  fr := R.fr
  val := fun j d h => by
    rcases put_get h with ⟨rfl, e, hl⟩ | ⟨hj, h⟩
    · cases e
    · rw [set_ne hj]; exact R.val j d h
  own := fun j d h => by
    rcases put_get h with ⟨rfl, e, hl⟩ | ⟨hj, h⟩
    · cases e
    · rw [set_ne hj]; exact R.own j d h
  dom := fun j a h => by
    obtain ⟨h1, h2, h3, d, h4⟩ := R.dom j a h
    have hj : j ≠ i := fun z => by rw [z, hi] at h4; cases h4
    exact ⟨h1, h2, h3, d, by rw [put_at hj]; exact h4⟩
  inj := R.inj
  obj := R.obj
  tow := R.tow
  tnc := fun j h => by
    rcases put_get h with ⟨rfl, e, hl⟩ | ⟨hj, h⟩
    · cases e
    · rw [set_ne hj]; exact R.tnc j h
  rwc := fun j h => by
    rcases put_get h with ⟨rfl, e, hl⟩ | ⟨hj, h⟩
    · cases e
    · rw [set_ne hj]; exact R.rwc j h
  noc := fun j h => by
    rcases put_get h with ⟨rfl, e, hl⟩ | ⟨hj, h⟩
    · cases e
    · rw [set_ne hj]; exact R.noc j h
  ptc := fun j h => by
    rcases put_get h with ⟨rfl, e, hl⟩ | ⟨hj, h⟩
    · rw [R.len] at hl; simp [hl]
    · rw [set_ne hj]; exact R.ptc j h
  pl := R.pl
  plc := fun j d h => by
    rcases put_get h with ⟨rfl, e, hl⟩ | ⟨hj, h⟩
    · cases e
    · exact (R.plc j d h).step Fz.refl (fun _ _ _ e => e) (set_ne hj)
end
def notPtr : C → Bool
  | .ptr => false
  | .pln _ => false
  | _ => true
def enter2 (i j : Nat) (F : Fs2) : Fs := fun s => match s.tw, s.rho[i]?, s.rho[j]? with
  | none, some .no, some (.val d) => if s.rho.all notPtr = true then (match F (s.put i .ptr) [(0, [d])] with
    | some (.ret z, _, _) => some (.ret z, s)
    | _ => none) else none
  | _, _, _ => none
section
variable {X : Cx} {i j k0 : Nat} {x y : Str} {p p1 p2 p3 p4 pos : Pos} {rest : List Stmt} {F : Fs2}
theorem vb_enter (i j : Nat) (ny : NV X j y) (hN : X.N.Nodup) (h : VB2 X i rest F) (hi : X.N[i]? = some x := by rfl) (hx : Loc X.env.scope x := by first | exact Or.inl rfl | exact Or.inr rfl) (hs : swapsWith (.Dict [some (.Constant (.int 0) k0 p1)] [.List [.Name y p2] p3] p4) (some (.Name x p)) pos.line X.env = pure false := by rfl) (hf : X.fn x = true ∨ X.env.scope.names.lookup x = some .local := by first | exact .inl rfl | exact .inr rfl) (he : starEach [.Name y p2] X.env = (false, eval (.Name y p2) X.env) :: starEach [] X.env := by rfl) :
    VB X (.Assign [.Name x p] (.Dict [some (.Constant (.int 0) k0 p1)] [.List [.Name y p2] p3] p4) pos :: rest) (enter2 i j F) := by
  obtain ⟨u, q, sm⟩ := h.ex
  refine ⟨_, pss_cons (ps_set (i := i) hN hi hx (pe_disp (pps_cons pe_int (pe_lst (pa_cons (pe_var ny.hN ny.hv ny.hd ny.hcd) pa_nil he)) pps_nil) rfl rfl (by simp) (by simp)) hs hf) q, fun G W σ H s Dn R po => ?_⟩
  unfold enter2 at po
  split at po
  · rename_i d htw hc hj
    split at po
    · rename_i hnp
      have np : ∀ k : Nat, s.rho[k]? ≠ some C.ptr := fun k z => by
        have := List.all_eq_true.mp hnp _ (List.mem_of_getElem? z)
        cases this
      intro a hn
      obtain ⟨v, ev, rv⟩ := R.val j _ hj
      have hn1 : ∀ b o, H b = some o → (upd H a (.dK [])) b = some o := fun b o e => by rw [upd_ne (ne_of_none e hn)]; exact e
      refine ⟨v, ev, by show 1 ≤ sizeLine; rw [sizeLine_eq]; omega, fun b hb => ?_⟩
      have hba : b ≠ a := fun z => by rw [z, upd_same] at hb; cases hb
      have hb0 : H b = none := by rw [upd_ne hba] at hb; exact hb
      refine ⟨by rw [upd_ne (Ne.symm hba), upd_same], [(.inl 0, .ref b)], rfl, by simp, ?_⟩
      have em : mergeK [] [((.inl 0 : Key), V.ref b)] = [(.inl 0, .ref b)] := rfl
      rw [em]
      have R0 := R.hide0 a np
      have R1 := hid_new (o := .dK []) R0 hn
      have R2 := hid_new (o := .lst [v]) R1 hb
      have tn : W.tn = none := by
        have t := R.tow
        rw [htw] at t
        cases e : W.tn with
        | none => rfl
        | some q => rw [e] at t; exact t.elim
      have R3 := hid_put (p := a) (o := .dK []) (o' := .dK [(.inl 0, .ref b)]) R2 tn (by rw [upd_ne (Ne.symm hba), upd_same])
      have R4 := R3.putP hc
      have hij : i ≠ j := fun z => by rw [z, hj] at hc; cases hc
      have hM : ∀ z, upd (upd (upd (fun _ => none) a (.dK [])) b (.lst [v])) a (.dK [(.inl 0, .ref b)]) z ≠ (none : Option HO) → z = a ∨ z = b := fun z hz => by
        by_cases e1 : z = a
        · exact .inl e1
        · rw [upd_ne e1] at hz
          by_cases e2 : z = b
          · exact .inr e2
          · rw [upd_ne e2, upd_ne e1] at hz; exact absurd rfl hz
      have fz : Fz (Av G W) (Av (hide G (upd (upd (upd (fun _ => none) a (.dK [])) b (.lst [v])) a (.dK [(.inl 0, .ref b)])) a) W) H (upd (upd (upd H a (.dK [])) b (.lst [v])) a (.dK [(.inl 0, .ref b)])) := fun z o n e => by
        have za : z ≠ a := ne_of_none e hn
        have zb : z ≠ b := ne_of_none e hb0
        refine ⟨fun y => n ?_, by rw [upd_ne za, upd_ne zb, upd_ne za]; exact e⟩
        rcases y with (y | y) | y
        · exact .inl y
        · rcases hM z y with y | y
          · exact absurd y za
          · exact absurd y zb
        · exact .inr y
      refine sm G _ a W _ _ (s.put i .ptr) [(0, [d])] Dn ⟨R4, htw, fun z hz => ?_, ?_, by simp, _, [b], upd_same, .cons (by rw [upd_ne hba, upd_same]) (.cons (rv.fz fz) .nil) .nil, by simp [Ne.symm hba]⟩ ?_
      · have fresh : ∀ z, H z = none → G.H0 z = none ∧ ¬ G.O z := fun z hz => ⟨R.fresh0 hz, fun y => R.free hz (.inl y)⟩
        rcases hM z hz with rfl | rfl
        · exact fresh _ hn
        · exact fresh _ hb0
      · have hl : i < s.rho.length := (List.getElem?_eq_some_iff.mp hc).1
        show (s.rho.set i .ptr)[i]? = _
        rw [List.getElem?_set_self hl]
      · match e : F (s.put i .ptr) [(0, [d])], po with
        | none, po => exact po.elim
        | some (.next, _, _), po => exact po.elim
        | some (.brk, _, _), po => exact po.elim
        | some (.cont, _, _), po => exact po.elim
        | some (.retF _, _, _), po => exact po.elim
        | some (.ret z, s1, L1), po =>
          intro v' H' hk r
          have npl : ∀ (k : Nat) (d : D), s.rho[k]? ≠ some (C.pln d) := fun k d z => by
            have := List.all_eq_true.mp hnp _ (List.mem_of_getElem? z)
            cases this
          refine po W0 v' H' ⟨fun x o h _ => hk x o h, by rw [htw]; trivial, PlOk.no, fun k d z => absurd z (npl k d)⟩ ⟨fun t ht => (by rw [tn] at ht; cases ht), fun q d z => absurd z (npl 0 d)⟩ (r.weak fun x y => ?_)
          rcases y with y | ⟨t, y, _⟩ | ⟨k, q, y, _⟩
          · exact y
          · cases y
          · cases y
    · exact po.elim
  · exact po.elim
end
end Fx
-- Fl3
namespace Fx
open PySem PySem.Spec L2
/-! ### d.get(k, e), d.get(k) of an own dict; xs.pop() of an own list -/
/-- no nested key -/
def flatK (d : D) : Bool := match keyY d with
  | some (.n _) => false
  | _ => true
theorem flatK_of {d : D} {k : KY} (h : flatK d = true) (e : keyY d = some k) : ∀ q, k ≠ .n q := by
  rintro q rfl
  unfold flatK at h
  rw [e] at h
  cases h
def eGetYO (i : Nat) (f g : Fe) : Fe := fun s => (s.ownY i).bind fun kvs0 => (f s).bind fun (y, s1) => (g s1).bind fun (z, s2) => (s2.ownY i).bind fun kvs => if noN kvs0 = true ∧ flatK y = true then (getY (.dict kvs) y).map fun o => (o.getD z, s2) else none
def eGet1YO (i : Nat) (f : Fe) : Fe := fun s => (s.ownY i).bind fun kvs0 => (f s).bind fun (y, s1) => (s1.ownY i).bind fun kvs => if noN kvs0 = true ∧ flatK y = true then (getY (.dict kvs) y).map fun o => (o.getD .none, s1) else none
section
variable {X : Cx} {i : Nat} {x : Str} {p' pos p2 : Pos} {b c : Expr} {f g : Fe}
theorem ve_getYO (i : Nat) (nv : NV X i x) (hu : X.A.units + 1 < cLine) (hb : VE X b f) (hc : VE X c g) (m : M2 X (.Name x p') "get" p2 b c pos) : VE X (.Call (.Attribute (.Name x p') "get" p2) [b, c] [] pos) (eGetYO i f g) := by
  obtain ⟨t, p, sn⟩ := hb.ex
  obtain ⟨u, q, sm⟩ := hc.ex
  refine ⟨_, pe_dget2 hu (pe_var nv.hN nv.hv nv.hd nv.hcd) p q m, ?_⟩
  intro G W σ H s d s' R hf Q hq
  unfold eGetYO at hf
  simp only [Option.bind_eq_some_iff] at hf
  obtain ⟨kvs0, e0, ⟨y, s1⟩, e1, ⟨z, s2⟩, e2, kvs, e3, hf⟩ := hf
  split at hf
  rotate_left
  · cases hf
  rename_i hn
  rw [Option.map_eq_some_iff] at hf
  obtain ⟨o, e4, e5⟩ := hf
  cases e5
  obtain ⟨a, w1, w2, t0⟩ := R.own i _ (ownY_some e0)
  refine ⟨_, w2, a, rfl, t0.isD hn.1, sn G W σ H s y _ R e1 _ fun v H1 R1 z1 p1 => sm G W σ H1 s1 z _ R1 e2 _ fun w H2 R2 z2 p2 => ?_⟩
  obtain ⟨a', w1', w2', t2⟩ := R2.own i _ (ownY_some e3)
  rw [w1] at w1'; cases w1'
  obtain ⟨kvs', k, h0, h3, h4, rfl⟩ := getY_some e4
  cases h0
  obtain ⟨o, g, rr⟩ := t2.dgetF (flatK_of hn.2 h3) (p1.fz z2) h3 h4
  refine ⟨o, g, hq _ H2 R2 (z1.trans z2) ?_⟩
  rcases rr with ⟨rfl, e⟩ | ⟨v', d', rfl, e, rv⟩
  · rw [e]; exact p2
  · rw [e]; exact rv
theorem ve_get1YO (i : Nat) (nv : NV X i x) (hu : X.A.units + 1 < cLine) (hb : VE X b f) (m : M1 X (.Name x p') "get" p2 b pos) : VE X (.Call (.Attribute (.Name x p') "get" p2) [b] [] pos) (eGet1YO i f) := by
  obtain ⟨t, p, sn⟩ := hb.ex
  refine ⟨_, pe_dget1 hu (pe_var nv.hN nv.hv nv.hd nv.hcd) p m, ?_⟩
  intro G W σ H s d s' R hf Q hq
  unfold eGet1YO at hf
  simp only [Option.bind_eq_some_iff] at hf
  obtain ⟨kvs0, e0, ⟨y, s1⟩, e1, kvs, e3, hf⟩ := hf
  split at hf
  rotate_left
  · cases hf
  rename_i hn
  rw [Option.map_eq_some_iff] at hf
  obtain ⟨o, e4, e5⟩ := hf
  cases e5
  obtain ⟨a, w1, w2, t0⟩ := R.own i _ (ownY_some e0)
  refine ⟨_, w2, a, rfl, t0.isD hn.1, sn G W σ H s y _ R e1 _ fun v H1 R1 z1 p1 => ?_⟩
  obtain ⟨a', w1', w2', t2⟩ := R1.own i _ (ownY_some e3)
  rw [w1] at w1'; cases w1'
  obtain ⟨kvs', k, h0, h3, h4, rfl⟩ := getY_some e4
  cases h0
  obtain ⟨o, g, rr⟩ := t2.dgetF (flatK_of hn.2 h3) p1 h3 h4
  refine ⟨o, g, hq _ H1 R1 z1 ?_⟩
  rcases rr with ⟨rfl, e⟩ | ⟨v', d', rfl, e, rv⟩
  · rw [e]; exact .non
  · rw [e]; exact rv
def sPop (i : Nat) : Fs := fun s => (s.ownL i).bind fun ds => if ds = [] then none else some (.next, s.put i (.own (.list ds.dropLast)))
theorem reps_dropLast {E : Ev} {A : Addr → Prop} {H : Hp} : ∀ {vs : List V} {ds : List D}, Reps E A H vs ds → Reps E A H vs.dropLast ds.dropLast
  | _, _, .nil => .nil
  | _, _, .cons _ .nil => .nil
  | _, _, .cons r (.cons r2 t) => .cons r (reps_dropLast (.cons r2 t))
theorem vs_popL (i : Nat) (nv : NV X i x) (hbase : attributeBase (.Name x p') "pop" X.env (eval (.Name x p') X.env) = eval (.Name x p') X.env := by rfl) (hline : (p2.endLine == pos.line) = true := by rfl) (hs : swapsWith (.Call (.Attribute (.Name x p') "pop" p2) [] [] pos) none pos.line X.env = pure false := by rfl) : VS X (.Expr (.Call (.Attribute (.Name x p') "pop" p2) [] [] pos) pos) (sPop i) := by
  refine ⟨_, ps_expr (pe_bm0 PySem.F.plainAttrs_list PySem.F.slot_list_pop PySem.F.type_list_pop mt_pop (pe_var nv.hN nv.hv nv.hd nv.hcd) hbase hline) hs, fun G W σ H s Dn R po => ?_⟩
  unfold sPop at po
  match e0 : s.ownL i, po with
  | none, po => exact po.elim
  | some ds, po =>
    dsimp only [Option.bind] at po
    split at po
    · exact po.elim
    · rename_i hne
      obtain ⟨a, w1, w2, t0⟩ := R.own i _ (ownL_some e0)
      obtain ⟨xs, hx, hr⟩ := id t0
      have hlen : xs ≠ [] := fun z => by
        subst z
        have := hr.length
        exact hne (List.length_eq_zero_iff.mp this.symm)
      have hl : xs.length - 1 < xs.length := by
        have := List.length_pos_iff.mpr hlen
        omega
      refine ⟨_, w2, ty_list t0, a, xs, xs[xs.length - 1], rfl, rfl, hx, List.getElem?_eq_getElem hl, ?_⟩
      have av : Av G W a := .inr (.inl ⟨i, w1⟩)
      exact po W σ _ (R.turn (ownL_some e0) w1 ⟨_, upd_same, (reps_dropLast hr).fz (Fz.turn av)⟩) (Fz.turn av) Wk.refl
end
end Fx
-- Fl4
namespace Fx
open PySem PySem.Spec L2
/-! ### min([one for one in levels]) -/
def min2c (q : Nat) : Fe2 := fun s L => if L.length < 100000 ∧ q < s.rho.length then (minKs (L.map (·.1))).map fun m => (.int m, L) else none
theorem kV_inl {kvs : List (Key × V)} {is : List Int} (h : kvs.map (·.1) = is.map Sum.inl) {i : Nat} {k : Key} {v : V} (e : kvs[i]? = some (k, v)) : ∃ n, is[i]? = some n ∧ kV k = .int n := by
  have e1 : (kvs.map (·.1))[i]? = some k := by rw [List.getElem?_map, e]; rfl
  rw [h, List.getElem?_map, Option.map_eq_some_iff] at e1
  obtain ⟨n, h1, h2⟩ := e1
  exact ⟨n, h1, by rw [← h2]; rfl⟩
section
variable {X : Cx} {x y : Str} {p p1 p2 p3 p4 pos pos2 : Pos} {scope : Scope} {own : List (Str × Nat)}
theorem ve2_minC (i q : Nat) (hc : X.calm = true) (hg : Gl X "min") (hm : X.mg "min" = none) (nx : NV X i x) (hN : X.N.Nodup) (ok : BlkOk X.N X.env.scope scope own) (ho : own.map (·.2) = [q] := by rfl)
    (hq : X.N[q]? = some y := by rfl) (hl : ∀ (s : Shared) (H : Hp) (C : Addr) (cl : List (Str × Addr)) (fp : List Addr), Loc (X.blk s H scope (compEnvC scope cl C X.env) fp).env.scope y := by intro _ _ _ _ _; first | exact Or.inl rfl | exact Or.inr rfl) (hvy : ∀ (s : Shared) (H : Hp) (C : Addr) (cl : List (Str × Addr)) (fp : List Addr), Vis (X.blk s H scope (compEnvC scope cl C X.env) fp).env.scope y := by intro _ _ _ _ _; first | exact Or.inl rfl | exact Or.inr (Or.inl rfl) | exact Or.inr (Or.inr rfl)) (hf : ∀ (s : Shared) (H : Hp) (C : Addr) (cl : List (Str × Addr)) (fp : List Addr), (X.blk s H scope (compEnvC scope cl C X.env) fp).fn y = true ∨ (X.blk s H scope (compEnvC scope cl C X.env) fp).env.scope.names.lookup y = some .local := by intro _ _ _ _ _; first | exact .inl rfl | exact .inr rfl) (hd : (y == ("__debug__" : Str)) = false := by decide +kernel) (hcd : (y == ("__classdict__" : Str)) = false := by decide +kernel)
    (hv : bootBuiltins "min" = some (.builtin "min") := by decide +kernel) (ns : NS X (.ListComp (.Name y p2) [⟨.Name y p3, .Name x p, [], 0⟩] scope pos2) [] pos := by exact ⟨rfl, rfl⟩) (hs : ∀ z, foldedSetIterable (.Name x p) X.env z = pure z := by intro _; rfl) :
    VE2 X i (.Call (.Name "min" p1) [.ListComp (.Name y p2) [⟨.Name y p3, .Name x p, [], 0⟩] scope pos2] [] pos) (min2c q) := by
  refine ⟨_, pe_callB (cr_min hc) hg hm hv (pa_cons (pe_lock (pe_lc (g := gName q) (te := tVar q) hc hN (pi_keys (pe_var nx.hN nx.hv nx.hd nx.hcd)) ok (fun s H C cl fp => pg_name hN hq (hl s H C cl fp) (hf s H C cl fp)) (fun s H C cl fp => pts_nil) (fun s H C cl fp => pe_var hq (hvy s H C cl fp) hd hcd) hs)) pa_nil ns.he) (by decide) (by decide) ns.he ns.hpl, ?_⟩
  intro G M a W σ H s L d L' R hf' Q hQ
  unfold min2c at hf'
  split at hf'
  · rename_i hlen
    rw [Option.map_eq_some_iff] at hf'
    obtain ⟨m, h1, h2⟩ := hf'
    cases h2
    obtain ⟨kvs, bs, ha, lv, nd⟩ := R.lv
    have Ha := hid_at R.R R.tn ha
    have hql : q < σ.length := by rw [← R.R.len]; exact hlen.2
    rw [ho]
    refine ⟨a, .dK kvs, Ha, trivial, fun od => ?_⟩
    refine ⟨_, R.slot, a, od, rfl, .inl ⟨kvs, upd_same, fun E hE => ?_⟩⟩
    have hEa : E ≠ a := fun z => by rw [z, upd_same] at hE; cases hE
    have hE0 : H E = none := by rw [upd_ne hEa] at hE; exact hE
    refine lc_it walk_keys (fun j H2 => H2 = upd (upd H a (.frz od (.dK kvs))) E (.lst ((((L.map (·.1)).map V.int)).take j))) rfl (fun j H2 _ e => by rw [e, upd_ne (Ne.symm hEa), upd_same]) (fun j v H2 H3 hj e hy => ?_) (fun H2 e => ?_)
    · obtain ⟨rfl, k, w, hk, rfl⟩ := hy
      obtain ⟨n, hn, en⟩ := kV_inl lv.keys hk
      refine ⟨(wipe_set (by simp)).trans (wipe_idem σ [q]), ?_⟩
      unfold tYes
      refine Eq.mpr (if_pos rfl) ?_
      refine ⟨kV k, by rw [List.getElem?_set_self (by rw [L2.wipe_length]; exact hql)], ?_⟩
      refine ⟨_, by rw [e, upd_same], ?_, ?_⟩
      · refine line_lt ?_
        rw [List.length_take, List.length_map, List.length_map]
        have := hlen.1
        omega
      · rw [e, upd_upd]
        congr 2
        rw [List.take_add_one, List.getElem?_map, hn, en]
        rfl
    · have eL : kvs.length = ((L.map (·.1)).map V.int).length := by rw [lv.length, List.length_map, List.length_map]
      rw [eL, List.take_length] at e
      refine ⟨by rw [e, upd_ne (Ne.symm hEa), upd_same], ?_⟩
      obtain ⟨m1, m2⟩ := minKs_some h1
      have e3 : upd H2 a (.dK kvs) = upd H E (.lst ((L.map (·.1)).map V.int)) := by
        funext b
        rw [e]
        by_cases z1 : b = a
        · subst z1; rw [upd_same, upd_ne (Ne.symm hEa), Ha]
        · rw [upd_ne z1]
          by_cases z2 : b = E
          · subst z2; rw [upd_same, upd_same]
          · rw [upd_ne z2, upd_ne z1, upd_ne z2]
      rw [e3]
      have k : ∀ b o, H b = some o → (upd H E (.lst ((L.map (·.1)).map V.int))) b = some o := fun b o e => by rw [upd_ne (ne_of_none e hE0)]; exact e
      refine ⟨E, L.map (·.1), rfl, SqL.of upd_same, List.length_pos_of_mem m1, fun m' h3 h4 => ?_⟩
      have e4 : m' = m := Int.le_antisymm (h4 m m1) (m2 m' h3)
      subst e4
      exact hQ M _ _ (R.keeps k) (Fz.of_same k) (.int _)
  · cases hf'
/-! ### levels[far] = levels.get(far, []) + [there] -/
def cat2 (j l : Nat) : Fs2 := fun s L => match s.rho[j]?, s.rho[l]? with
  | some (.val (.int c)), some (.val d) => if L.length < 100000 ∧ ((lookL c L).getD []).length < 100000 then some (.next, s, appL c d (setL c L)) else none
  | _, _ => none
theorem vs2_cat (i j l : Nat) {z : Str} {p5 p6 p7 p8 p9 p10 p11 : Pos} (hu : X.A.units + 1 < cLine) (nx : NV X i x) (ny : NV X j y) (nz : NV X l z) (m : M2 X (.Name x p) "get" p1 (.Name y p2) (.List [] p3) p4) (hs : swapsWith (.BinOp (.Call (.Attribute (.Name x p) "get" p1) [.Name y p2, .List [] p3] [] p4) .Add (.List [.Name z p5] p6) p7) (some (.Subscript (.Name x p8) (.Name y p9) p10)) p11.line X.env = pure false := by rfl) (he : starEach [.Name z p5] X.env = (false, eval (.Name z p5) X.env) :: starEach [] X.env := by rfl) :
    VS2 X i (.Assign [.Subscript (.Name x p8) (.Name y p9) p10] (.BinOp (.Call (.Attribute (.Name x p) "get" p1) [.Name y p2, .List [] p3] [] p4) .Add (.List [.Name z p5] p6) p7) p11) (cat2 j l) := by
  refine ⟨_, ps_dput hu (pe_var nx.hN nx.hv nx.hd nx.hcd) (pe_var ny.hN ny.hv ny.hd ny.hcd) (pe_op op_cat (pe_dget2 hu (pe_var nx.hN nx.hv nx.hd nx.hcd) (pe_var ny.hN ny.hv ny.hd ny.hcd) (pe_lst pa_nil) m) (pe_lst (pa_cons (pe_var nz.hN nz.hv nz.hd nz.hcd) pa_nil he))) hs, fun G M a W σ H s L Dn R po => ?_⟩
  unfold cat2 at po
  split at po
  · rename_i c d ec ed
    split at po
    · rename_i hl
      obtain ⟨kvs, bs, ha, lv, nd⟩ := R.lv
      obtain ⟨n1, n2⟩ := List.nodup_cons.mp nd
      have Ha := hid_at R.R R.tn ha
      obtain ⟨v, ev, rv⟩ := R.R.val j _ ec
      cases rv
      obtain ⟨w, ew, rw'⟩ := R.R.val l _ ed
      refine ⟨_, R.slot, a, rfl, .inl ⟨kvs, .inl Ha⟩, _, ev, Nat.zero_le _, fun q1 hq1 => ?_⟩
      have h1a : q1 ≠ a := fun z => by rw [z, Ha] at hq1; cases hq1
      have k1 : ∀ b o, H b = some o → (upd H q1 (.lst [])) b = some o := fun b o e => by rw [upd_ne (ne_of_none e hq1)]; exact e
      refine ⟨_, DGet.k (k := .inl c) (k1 _ _ Ha), w, ew, by show 1 ≤ sizeLine; rw [sizeLine_eq]; omega, fun q2 hq2 => ?_⟩
      have k2 : ∀ b o, (upd H q1 (.lst [])) b = some o → (upd (upd H q1 (.lst [])) q2 (.lst [w])) b = some o := fun b o e => by rw [upd_ne (ne_of_none e hq2)]; exact e
      -- the list that is there
      obtain ⟨b, xs, eb, Hb, hx⟩ : ∃ b xs, (valV kvs (.inl c)).getD (.ref q1) = .ref b ∧ (upd H q1 (.lst [])) b = some (.lst xs) ∧ Reps (evX X) (Av (hide G M a) W) H xs ((lookL c L).getD []) := by
        cases el : lookL c L with
        | none => exact ⟨q1, [], by rw [lv.none el]; rfl, upd_same, .nil⟩
        | some ds =>
          obtain ⟨b, xs, g1, g2, g3, g4⟩ := lv.look el
          exact ⟨b, xs, by rw [g1]; rfl, k1 _ _ (hid_at R.R R.tn g3), g4⟩
      refine ⟨b, q2, xs, [w], eb, rfl, k2 _ _ Hb, upd_same, ?_, fun q3 hq3 => ?_⟩
      · have := line_lt hl.2
        rw [hx.length]
        rw [sizeLine_eq] at this ⊢
        have := hl.2
        simp
        omega
      have k3 : ∀ b o, (upd (upd H q1 (.lst [])) q2 (.lst [w])) b = some o → (upd (upd (upd H q1 (.lst [])) q2 (.lst [w])) q3 (.lst (xs ++ [w]))) b = some o := fun b o e => by rw [upd_ne (ne_of_none e hq3)]; exact e
      have kk : ∀ b o, H b = some o → (upd (upd (upd H q1 (.lst [])) q2 (.lst [w])) q3 (.lst (xs ++ [w]))) b = some o := fun b o e => k3 b o (k2 b o (k1 b o e))
      have h3 : H q3 = none := by
        cases e : H q3 with
        | none => rfl
        | some o => rw [k2 _ _ (k1 _ _ e)] at hq3; cases hq3
      have h3a : q3 ≠ a := fun z => by rw [z, Ha] at h3; cases h3
      have hM3 : M q3 = none := by
        cases e : M q3 with
        | none => rfl
        | some o => rw [hid_at R.R R.tn e] at h3; cases h3
      refine ⟨_, R.slot, _, ev, a, upd (upd (upd (upd H q1 (.lst [])) q2 (.lst [w])) q3 (.lst (xs ++ [w]))) a (.dK (putK kvs (.inl c) (.ref q3))), rfl, .inl ⟨kvs, .inl c, kk _ _ Ha, rfl, line_lt (by rw [lv.length]; exact hl.1), rfl⟩, ?_⟩
      have R0 := R.R.keeps (H' := upd (upd H q1 (.lst [])) q2 (.lst [w])) fun b o e => k2 b o (k1 b o e)
      have R1 := hid_new (o := .lst (xs ++ [w])) R0 hq3
      have R2 := hid_put (p := a) (o := .dK kvs) (o' := .dK (putK kvs (.inl c) (.ref q3))) R1 R.tn (by rw [upd_ne (Ne.symm h3a)]; exact ha)
      have hM : ∀ x, upd (upd M q3 (.lst (xs ++ [w]))) a (.dK (putK kvs (.inl c) (.ref q3))) x ≠ none → M x ≠ none ∨ x = q3 := fun x z => by
        by_cases e2 : x = a
        · exact .inl (by rw [e2, ha]; exact fun z => nomatch z)
        · rw [upd_ne e2] at z
          by_cases e3 : x = q3
          · exact .inr e3
          · rw [upd_ne e3] at z; exact .inl z
      have fz : Fz (Av (hide G M a) W) (Av (hide G (upd (upd M q3 (.lst (xs ++ [w]))) a (.dK (putK kvs (.inl c) (.ref q3)))) a) W) H (upd (upd (upd (upd H q1 (.lst [])) q2 (.lst [w])) q3 (.lst (xs ++ [w]))) a (.dK (putK kvs (.inl c) (.ref q3)))) := fun x o n e => by
        refine ⟨fun z => n ?_, by rw [upd_ne (fun z => n (by rw [z]; exact hid_av (by rw [ha]; exact fun z => nomatch z)))]; exact kk x o e⟩
        rcases z with (z | z) | z
        · exact .inl (.inl z)
        · rcases hM x z with z | z
          · exact .inl (.inr z)
          · rw [z, h3] at e; cases e
        · exact .inr z
      obtain ⟨bs', lv', sub⟩ : ∃ bs', LvE (evX X) (Av (hide G (upd (upd M q3 (.lst (xs ++ [w]))) a (.dK (putK kvs (.inl c) (.ref q3)))) a) W) (upd (upd M q3 (.lst (xs ++ [w]))) a (.dK (putK kvs (.inl c) (.ref q3)))) (upd (upd (upd (upd H q1 (.lst [])) q2 (.lst [w])) q3 (.lst (xs ++ [w]))) a (.dK (putK kvs (.inl c) (.ref q3)))) (putK kvs (.inl c) (.ref q3)) (appL c d (setL c L)) bs' ∧ (a :: bs').Nodup := by
        have hbs : ∀ b ∈ bs, b ≠ q3 := fun b hb z => lv.mem b hb (by rw [z]; exact hM3)
        have keep : ∀ b ∈ bs, (upd (upd M q3 (.lst (xs ++ [w]))) a (.dK (putK kvs (.inl c) (.ref q3)))) b = M b := fun b hb => by
          rw [upd_ne (fun z => n1 (by rw [← z]; exact hb)), upd_ne (hbs b hb)]
        have at3 : (upd (upd M q3 (.lst (xs ++ [w]))) a (.dK (putK kvs (.inl c) (.ref q3)))) q3 = some (.lst (xs ++ [w])) := by rw [upd_ne h3a, upd_same]
        have rep3 := (hx.fz fz).append (.cons (rw'.fz fz) .nil)
        cases el : lookL c L with
        | none =>
          have hno := lv.none el
          have ep : putK kvs (.inl c) (.ref q3) = kvs ++ [(.inl c, .ref q3)] := by
            have any : (kvs.any fun kv => decide (kv.1 = (.inl c : Key))) = false := by
              rw [List.any_eq_false]
              intro kv hkv z
              unfold valV at hno
              rw [Option.map_eq_none_iff, List.find?_eq_none] at hno
              exact hno kv hkv z
            unfold putK
            rw [any]
            simp
          have ea : appL c d (setL c L) = L ++ [(c, [d])] := by
            unfold setL
            rw [el]
            have go : ∀ L : Lv, lookL c L = none → appL c d (L ++ [(c, [])]) = L ++ [(c, [d])] := by
              intro L
              induction L with
              | nil => intro _; simp [appL]
              | cons p L ih =>
                obtain ⟨k, es⟩ := p
                intro h
                unfold lookL at h
                split at h
                · cases h
                · rename_i e
                  rw [List.cons_append]
                  unfold appL
                  rw [if_neg e, ih h]
                  rfl
            exact go L el
          rw [el] at rep3
          refine ⟨bs ++ [q3], ?_, ?_⟩
          · rw [ea]
            have := LvE.snoc (c := c) (ds := [d]) (lv.fz fz keep) at3 rep3
            rw [← ep] at this
            exact this
          · refine List.nodup_cons.mpr ⟨fun z => ?_, ?_⟩
            · rcases List.mem_append.mp z with z | z
              · exact n1 z
              · simp at z; exact h3a z.symm
            · rw [List.nodup_append]
              refine ⟨n2, by simp, fun u hu w hw z => ?_⟩
              simp at hw
              subst hw
              exact hbs u hu z
        | some ds =>
          have es : setL c L = L := by unfold setL; rw [el]
          rw [es]
          rw [el] at rep3
          obtain ⟨_, _, g1, _⟩ := lv.look el
          have ep : putK kvs (.inl c) (.ref q3) = kvs.map fun kv => if kv.1 = .inl c then (kv.1, .ref q3) else kv := by
            have any : (kvs.any fun kv => decide (kv.1 = (.inl c : Key))) = true := by
              unfold valV at g1
              rw [Option.map_eq_some_iff] at g1
              obtain ⟨kv, h1, _⟩ := g1
              exact List.any_eq_true.mpr ⟨kv, List.mem_of_find?_eq_some h1, List.find?_some (p := fun kv : Key × V => decide (kv.1 = (.inl c : Key))) h1⟩
            unfold putK
            rw [if_pos any]
          obtain ⟨bs', r1, r2, r3⟩ := lv.rep (c := c) (d := d) fz keep hbs n2 R.kd el at3 rep3
          refine ⟨bs', ?_, List.nodup_cons.mpr ⟨fun z => ?_, r2⟩⟩
          · have e5 : LvE (evX X) (Av (hide G (upd (upd M q3 (.lst (xs ++ [w]))) a (.dK (putK kvs (.inl c) (.ref q3)))) a) W) (upd (upd M q3 (.lst (xs ++ [w]))) a (.dK (putK kvs (.inl c) (.ref q3)))) (upd (upd (upd (upd H q1 (.lst [])) q2 (.lst [w])) q3 (.lst (xs ++ [w]))) a (.dK (putK kvs (.inl c) (.ref q3)))) (kvs.map fun kv => if kv.1 = .inl c then (kv.1, .ref q3) else kv) (appL c d L) bs' := r1
            rw [← ep] at e5
            exact e5
          · rcases r3 a z with z | z
            · exact n1 z
            · exact h3a z.symm
      refine po _ W σ _ ⟨R2, R.tw, fun x z => ?_, R.pt, by rw [app_keys]; exact set_keys R.kd, _, bs', upd_same, lv', sub⟩ fz
      rcases hM x z with z | z
      · exact R.fr x z
      · rw [z]
        have h0 := R.R.fresh0 h3
        refine ⟨?_, fun y => R.R.free h3 (.inl (.inl y))⟩
        have : (M q3).or (G.H0 q3) = none := h0
        rw [hM3] at this
        exact this
    · exact po.elim
  · exact po.elim
end
end Fx
-- Fl5
namespace Fx
open PySem PySem.Spec L2
/-! ### a, b, .. = a list -/
def gTl (n : Nat) (gs : List D → S → Option S) : Fg := fun d s => match d with
  | .list ds => if ds.length = n then gs ds s else none
  | _ => none
theorem vg_unl {X : Cx} {es : List Expr} {gs : List D → S → Option S} {pos : Pos} {k n : Nat} (hc : X.calm = true) (h : VGs X es gs) (hn : (assignEach es X.env).length = n := by rfl) (hst : (assignEach es X.env).findIdx? (·.1) = none := by rfl) : VG X (.Tuple es k pos) (gTl n gs) := by
  obtain ⟨t, p, sn⟩ := h.ex
  refine ⟨_, pg_unl hc p hn hst, fun G W σ H s v d s' R r hf Q hq => ?_⟩
  cases r <;> simp only [gTl] at hf
  all_goals first | (cases hf; done) | skip
  rename_i a xs ds n1 e1 r1
  split at hf
  · rename_i hl
    exact ⟨a, xs, rfl, SqL.of e1, by rw [r1.length]; exact hl, sn G W σ H s _ _ s' R r1 hf _ hq⟩
  · cases hf
end Fx
-- k02d
namespace Fx
open PySem PySem.Spec L2
def B_is_whole : Fs := sRet (eAnd (eUn (isiD .int) (eVar 0)) (eAnd (eUn notD (eUn (isiD .bool) (eVar 0))) (eChain leD leD (eVar 1) (eVar 0) (eVar 2))))
def g_is_whole : List D → Option D := fnV 3 B_is_whole
def B_is_rect : Fs := sSeq (sIf (eOr (eUn notD (eUn (isiD .tuple) (eVar 0))) (eOr (eBin neD (eCall lenD (aCons (eVar 0) (aNil))) (eC (.int 4))) (eUn notD (eCall allD (aCons (eComp (iterS (eVar 0)) (gNm 3) (eC (.bool true)) [3] (pEmit (eFn 3 g_is_whole (aCons (eVar 3) (aCons (eVar 1) (aCons (eVar 2) (aNil))))))) (aNil))))))
  (sRet (eC (.bool false)))
  (sNext))
  (sRet (eAnd (eBin ltD (eBin ixD (eVar 0) (eC (.int 0))) (eBin ixD (eVar 0) (eC (.int 2)))) (eBin ltD (eBin ixD (eVar 0) (eC (.int 1))) (eBin ixD (eVar 0) (eC (.int 3))))))
def g_is_rect : List D → Option D := fnV 4 B_is_rect
def B_is_body : Fs := sSeq (sIf (eOr (eUn notD (eUn (isiD .tuple) (eVar 0))) (eUn notD (eChain leD leD (eC (.int 1)) (eCall lenD (aCons (eVar 0) (aNil))) (eC (.int 6)))))
  (sRet (eC (.bool false)))
  (sNext))
  (sRet (eCall allD (aCons (eComp (iterS (eVar 0)) (gNm 1) (eC (.bool true)) [1] (pEmit (eFn 3 g_is_rect (aCons (eVar 1) (aCons (eUn negD (eC (.int 8))) (aCons (eC (.int 8)) (aNil))))))) (aNil))))
def g_is_body : List D → Option D := fnV 2 B_is_body
def B_look_body : Fs := sIf (eUn notD (eFn 1 g_is_body (aCons (eVar 0) (aNil))))
  (sNo)
  (sNext)
def g_look_body : List D → Option D := fnV 1 B_look_body
def B_look_number : Fs := sIf (eUn notD (eFn 3 g_is_whole (aCons (eVar 0) (aCons (eVar 1) (aCons (eVar 2) (aNil))))))
  (sNo)
  (sNext)
def g_look_number : List D → Option D := fnV 3 B_look_number
def B_quarter : Fs := sRet (eTup (aCons (eUn negD (eBin ixD (eVar 0) (eC (.int 3)))) (aCons (eBin ixD (eVar 0) (eC (.int 0))) (aCons (eUn negD (eBin ixD (eVar 0) (eC (.int 1)))) (aCons (eBin ixD (eVar 0) (eC (.int 2))) (aNil))))))
def g_quarter : List D → Option D := fnV 1 B_quarter
def B_turned_by : Fs := sSeq (sFor (iterA range1D (aCons (eVar 1) (aNil))) (gNm 2)
  (sSet 0 (eCall tupD (aCons (eComp (iterS (eVar 0)) (gNm 3) (eC (.bool true)) [3] (pEmit (eFn 1 g_quarter (aCons (eVar 3) (aNil))))) (aNil)))))
  (sRet (eVar 0))
def g_turned_by : List D → Option D := fnV 4 B_turned_by
def B_turned : Fs := sSeq (sExpr (eFn 1 g_look_body (aCons (eVar 0) (aNil))))
  (sSeq (sExpr (eFn 3 g_look_number (aCons (eVar 1) (aCons (eC (.int 0)) (aCons (eC (.int 3)) (aNil))))))
  (sRet (eFn 2 g_turned_by (aCons (eVar 0) (aCons (eVar 1) (aNil))))))
def g_turned : List D → Option D := fnV 2 B_turned
def B__law_is : Fs := sRet (eAnd (eUn (isiD .bool) (eVar 0)) (eBin eqD (eVar 0) (eVar 1)))
def g__law_is : List D → Option D := fnV 2 B__law_is
def B__law_draw : Fs := sSeq (sRow 0 2)
  (sSeq (sTw1 0 (eBin addD (eTw1 0) (eC (.int 1))))
  (sSeq (sSet 3 (eBin modD (eTw1 0) (eRowLen 2)))
  (sSeq (sSet 4 (eRowAt 2 (eVar 3)))
  (sSeq (sIf (eBin geD (eVar 4) (eC (.int 1000000000000000000)))
  (sSeq (sRowSet 2 (eVar 3) (eBin divD (eVar 4) (eVar 1)))
  (sRet (eBin modD (eVar 4) (eVar 1))))
  (sNext))
  (sSeq (sSet 5 (eBin modD (eBin addD (eVar 4) (eBin mulD (eC (.int 104729)) (eTw1 0))) (eC (.int 4294967291))))
  (sSeq (sSet 5 (eBin modD (eBin powD (eVar 5) (eC (.int 5))) (eC (.int 4294967279))))
  (sRet (eBin modD (eBin divD (eBin modD (eBin addD (eBin mulD (eBin divD (eVar 5) (eC (.int 64))) (eC (.int 69621))) (eVar 5)) (eC (.int 4294967231))) (eC (.int 8))) (eVar 1)))))))))
def g__law_draw : Tw → List D → Option (D × Tw) := fnT 6 B__law_draw
def B__law_rect : Fs := sSeq (sPar 2 3 (aCons (eBin subD (eFnT 0 1 g__law_draw (aCons (eBin mulD (eC (.int 2)) (eVar 1)) (aNil))) (eVar 1)) (aCons (eBin subD (eFnT 0 1 g__law_draw (aCons (eBin mulD (eC (.int 2)) (eVar 1)) (aNil))) (eVar 1)) (aNil))))
  (sRet (eTup (aCons (eVar 2) (aCons (eVar 3) (aCons (eBin addD (eBin addD (eVar 2) (eC (.int 1))) (eFnT 0 1 g__law_draw (aCons (eBin subD (eVar 1) (eVar 2)) (aNil)))) (aCons (eBin addD (eBin addD (eVar 3) (eC (.int 1))) (eFnT 0 1 g__law_draw (aCons (eBin subD (eVar 1) (eVar 3)) (aNil)))) (aNil)))))))
def g__law_rect : Tw → List D → Option (D × Tw) := fnT 4 B__law_rect
def B_covered_by : Fs := sSeq (sSet 1 (eUn sortSetD (eComp (iterS (eVar 0)) (gNm 9) (eC (.bool true)) [9, 10] (pFor (iterS (eTup (aCons (eBin ixD (eVar 9) (eC (.int 0))) (aCons (eBin ixD (eVar 9) (eC (.int 2))) (aNil))))) (gNm 10) (eC (.bool true)) [10] (pEmitI (eVar 10))))))
  (sSeq (sSet 2 (eC (.int 0)))
  (sSeq (sFor (iterA range1D (aCons (eBin subD (eCall lenD (aCons (eVar 1) (aNil))) (eC (.int 1))) (aNil))) (gNm 3)
  (sSeq (sSet 4 (eCall sortedD (aCons (eComp (iterS (eVar 0)) (gNm 9) (eAnd (eBin leD (eBin ixD (eVar 9) (eC (.int 0))) (eBin ixD (eVar 1) (eVar 3))) (eBin geD (eBin ixD (eVar 9) (eC (.int 2))) (eBin ixD (eVar 1) (eBin addD (eVar 3) (eC (.int 1)))))) [9] (pEmit (eTup (aCons (eBin ixD (eVar 9) (eC (.int 1))) (aCons (eBin ixD (eVar 9) (eC (.int 3))) (aNil)))))) (aNil))))
  (sSeq (sSet 5 (eC .none))
  (sFor (iterS (eVar 4)) (gTp 2 (gsCons (gNm 6) (gsCons (gNm 7) (gsNil))))
  (sSeq (sSet 8 (eIf (eBin isND (eVar 5) (eC .none)) (eVar 6) (eCall max2D (aCons (eVar 6) (aCons (eVar 5) (aNil))))))
  (sSeq (sIf (eBin gtD (eVar 7) (eVar 8))
  (sAug 2 addI (eBin mulD (eBin subD (eVar 7) (eVar 8)) (eBin subD (eBin ixD (eVar 1) (eBin addD (eVar 3) (eC (.int 1)))) (eBin ixD (eVar 1) (eVar 3)))))
  (sNext))
  (sSet 5 (eIf (eBin isND (eVar 5) (eC .none)) (eVar 7) (eCall max2D (aCons (eVar 5) (aCons (eVar 7) (aNil))))))))))))
  (sRet (eVar 2))))
def g_covered_by : List D → Option D := fnV 11 B_covered_by
def B_body_area : Fs := sSeq (sExpr (eFn 1 g_look_body (aCons (eVar 0) (aNil))))
  (sRet (eFn 1 g_covered_by (aCons (eVar 0) (aNil))))
def g_body_area : List D → Option D := fnV 1 B_body_area
def B_frame_of : Fs := sRet (eCall maxLD (aCons (eComp (iterS (eVar 0)) (gNm 1) (eC (.bool true)) [1, 2] (pFor (iterS (eVar 1)) (gNm 2) (eC (.bool true)) [2] (pEmit (eCall absD (aCons (eVar 2) (aNil)))))) (aNil)))
def g_frame_of : List D → Option D := fnV 3 B_frame_of
def B_frame : Fs := sSeq (sExpr (eFn 1 g_look_body (aCons (eVar 0) (aNil))))
  (sRet (eFn 1 g_frame_of (aCons (eVar 0) (aNil))))
def g_frame : List D → Option D := fnV 1 B_frame
def B_box_of : Fs := sRet (eTup (aCons (eCall minLD (aCons (eComp (iterS (eVar 0)) (gNm 1) (eC (.bool true)) [1] (pEmit (eBin ixD (eVar 1) (eC (.int 0))))) (aNil))) (aCons (eCall minLD (aCons (eComp (iterS (eVar 0)) (gNm 1) (eC (.bool true)) [1] (pEmit (eBin ixD (eVar 1) (eC (.int 1))))) (aNil))) (aCons (eCall maxLD (aCons (eComp (iterS (eVar 0)) (gNm 1) (eC (.bool true)) [1] (pEmit (eBin ixD (eVar 1) (eC (.int 2))))) (aNil))) (aCons (eCall maxLD (aCons (eComp (iterS (eVar 0)) (gNm 1) (eC (.bool true)) [1] (pEmit (eBin ixD (eVar 1) (eC (.int 3))))) (aNil))) (aNil))))))
def g_box_of : List D → Option D := fnV 2 B_box_of
def B_body_box : Fs := sSeq (sExpr (eFn 1 g_look_body (aCons (eVar 0) (aNil))))
  (sRet (eFn 1 g_box_of (aCons (eVar 0) (aNil))))
def g_body_box : List D → Option D := fnV 1 B_body_box
def B_turned_body : Fs := sSeq (sExpr (eFn 1 g_look_body (aCons (eVar 0) (aNil))))
  (sRet (eFn 2 g_turned_by (aCons (eVar 0) (aCons (eC (.int 1)) (aNil)))))
def g_turned_body : List D → Option D := fnV 1 B_turned_body
def B_is_even : Fs := sSeq (sExpr (eFn 1 g_look_body (aCons (eVar 0) (aNil))))
  (sSeq (sSet 1 (eFn 1 g_covered_by (aCons (eBin addD (eVar 0) (eFn 2 g_turned_by (aCons (eVar 0) (aCons (eC (.int 1)) (aNil))))) (aNil))))
  (sRet (eBin eqD (eVar 1) (eFn 1 g_covered_by (aCons (eVar 0) (aNil))))))
def g_is_even : List D → Option D := fnV 2 B_is_even
def B__law_cells : Fs := sSeq (sSet 1 (eLst (aNil)))
  (sSeq (sFor (iterS (eVar 0)) (gTp 4 (gsCons (gNm 2) (gsCons (gNm 3) (gsCons (gNm 4) (gsCons (gNm 5) (gsNil))))))
  (sFor (iterA range2D (aCons (eVar 2) (aCons (eVar 4) (aNil)))) (gNm 6)
  (sSet 1 (eBin catD (eVar 1) (eComp (iterA range2D (aCons (eVar 3) (aCons (eVar 5) (aNil)))) (gNm 7) (eC (.bool true)) [7] (pEmit (eTup (aCons (eVar 6) (aCons (eVar 7) (aNil))))))))))
  (sRet (eUn sortSetD (eVar 1))))
def g__law_cells : List D → Option D := fnV 8 B__law_cells
def B__law_shape : Fs := sSeq (sSet 2 (eFn 1 g__law_cells (aCons (eVar 0) (aNil))))
  (sSeq (sFor (iterA range1D (aCons (eVar 1) (aNil))) (gNm 3)
  (sThenFrz 2 (sSetF 2 (eComp (iterS (eVar 2)) (gTp 2 (gsCons (gNm 4) (gsCons (gNm 5) (gsNil)))) (eC (.bool true)) [4, 5] (pEmit (eTup (aCons (eBin subD (eBin subD (eC (.int 0)) (eVar 5)) (eC (.int 1))) (aCons (eVar 4) (aNil)))))))))
  (sRet (eCall sortedD (aCons (eVar 2) (aNil)))))
def g__law_shape : List D → Option D := fnV 6 B__law_shape
def B_law : Fs := sSeq (sSet 2 (eCall tupD (aCons (eComp (iterA range1D (aCons (eBin addD (eC (.int 1)) (eFnT 1 1 g__law_draw (aCons (eC (.int 3)) (aNil)))) (aNil))) (gNm 10) (eC (.bool true)) [10] (pEmit (eFnT 1 1 g__law_rect (aCons (eBin addD (eC (.int 1)) (eFnT 1 1 g__law_draw (aCons (eC (.int 6)) (aNil)))) (aNil))))) (aNil))))
  (sSeq (sIf (eOr (eBin isntD (eFn 1 g_is_body (aCons (eVar 2) (aNil))) (eC (.bool true))) (eBin neD (eFn 1 g_body_area (aCons (eVar 2) (aNil))) (eCall lenD (aCons (eFn 1 g__law_cells (aCons (eVar 2) (aNil))) (aNil)))))
  (sRet (eC (.bool false)))
  (sNext))
  (sSeq (sSet 3 (eVar 2))
  (sSeq (sSet 4 (eC (.int 0)))
  (sSeq (sFor (iterA range1D (aCons (eC (.int 4)) (aNil))) (gNm 5)
  (sSeq (sSet 8 (eFn 2 g_turned (aCons (eVar 2) (aCons (eVar 5) (aNil)))))
  (sSeq (sIf (eOr (eBin neD (eVar 8) (eVar 3)) (eOr (eBin neD (eCall sortedD (aCons (eFn 1 g__law_cells (aCons (eVar 8) (aNil))) (aNil))) (eFn 2 g__law_shape (aCons (eVar 2) (aCons (eVar 5) (aNil))))) (eBin isntD (eFn 1 g_is_body (aCons (eVar 8) (aNil))) (eC (.bool true)))))
  (sRet (eC (.bool false)))
  (sNext))
  (sSeq (sFor (iterS (eVar 8)) (gNm 9)
  (sSet 4 (eCall maxLD (aCons (eBin catD (eLst (aCons (eVar 4) (aNil))) (eComp (iterS (eVar 9)) (gNm 11) (eC (.bool true)) [11] (pEmit (eCall max2D (aCons (eVar 11) (aCons (eBin subD (eC (.int 0)) (eVar 11)) (aNil))))))) (aNil)))))
  (sSet 3 (eFn 2 g_turned (aCons (eVar 3) (aCons (eC (.int 1)) (aNil)))))))))
  (sSeq (sIf (eOr (eBin neD (eVar 3) (eVar 2)) (eOr (eBin neD (eFn 1 g_frame (aCons (eVar 2) (aNil))) (eVar 4)) (eBin neD (eFn 2 g_turned (aCons (eFn 2 g_turned (aCons (eVar 2) (aCons (eC (.int 2)) (aNil)))) (aCons (eC (.int 2)) (aNil)))) (eVar 2))))
  (sRet (eC (.bool false)))
  (sNext))
  (sSeq (sSet 6 (eTup (aCons (eCall minLD (aCons (eComp (iterS (eVar 2)) (gNm 9) (eC (.bool true)) [9] (pEmit (eBin ixD (eVar 9) (eC (.int 0))))) (aNil))) (aCons (eCall minLD (aCons (eComp (iterS (eVar 2)) (gNm 9) (eC (.bool true)) [9] (pEmit (eBin ixD (eVar 9) (eC (.int 1))))) (aNil))) (aNil)))))
  (sSeq (sSet 7 (eTup (aCons (eCall maxLD (aCons (eComp (iterS (eVar 2)) (gNm 9) (eC (.bool true)) [9] (pEmit (eBin ixD (eVar 9) (eC (.int 2))))) (aNil))) (aCons (eCall maxLD (aCons (eComp (iterS (eVar 2)) (gNm 9) (eC (.bool true)) [9] (pEmit (eBin ixD (eVar 9) (eC (.int 3))))) (aNil))) (aNil)))))
  (sSeq (sIf (eOr (eBin neD (eFn 1 g_body_box (aCons (eVar 2) (aNil))) (eBin addD (eVar 6) (eVar 7))) (eBin neD (eFn 1 g_turned_body (aCons (eVar 2) (aNil))) (eFn 2 g_turned (aCons (eVar 2) (aCons (eC (.int 1)) (aNil))))))
  (sRet (eC (.bool false)))
  (sNext))
  (sRet (eAnd (eFn 2 g__law_is (aCons (eFn 1 g_is_even (aCons (eVar 2) (aNil))) (aCons (eBin eqD (eFn 2 g__law_shape (aCons (eVar 2) (aCons (eC (.int 1)) (aNil)))) (eFn 2 g__law_shape (aCons (eVar 2) (aCons (eC (.int 0)) (aNil))))) (aNil)))) (eBin isND (eFn 1 g_is_even (aCons (eTup (aCons (eTup (aCons (eBin subD (eC (.int 0)) (eC (.int 1))) (aCons (eBin subD (eC (.int 0)) (eC (.int 1))) (aCons (eC (.int 1)) (aCons (eC (.int 1)) (aNil)))))) (aNil))) (aNil))) (eC (.bool true)))))))))))))
end Fx
-- shared
namespace Fx
open PySem PySem.Spec L2
/-! rectangles, rooms, bodies, standings -/
structure Rc where
  a : Int
  b : Int
  c : Int
  d : Int
deriving DecidableEq
structure Rm where
  w : Int
  h : Int
  bl : List Rc
structure Sd where
  x : Int
  y : Int
  t : Int
deriving DecidableEq
abbrev rcD (r : Rc) : D := .tuple [.int r.a, .int r.b, .int r.c, .int r.d]
abbrev rcsD (b : List Rc) : D := .tuple (b.map rcD)
abbrev rmD (R : Rm) : D := .tuple [.int R.w, .int R.h, rcsD R.bl]
abbrev sdD (s : Sd) : D := .tuple [.int s.x, .int s.y, .int s.t]
def ov (r s : Rc) : Bool := decide (r.a < s.c) && (decide (s.a < r.c) && (decide (r.b < s.d) && decide (s.b < r.d)))
def out (R : Rm) (r : Rc) : Bool := decide (r.a < 0) || (decide (r.b < 0) || (decide (r.c > R.w) || decide (r.d > R.h)))
def fit (R : Rm) (r : Rc) : Bool := !out R r && !R.bl.any (ov r)
def quart (r : Rc) : Rc := ⟨-r.d, r.a, -r.b, r.c⟩
def turnB (b : List Rc) (n : Int) : List Rc := (rng 0 n).foldl (fun b _ => b.map quart) b
def shift (x y : Int) (r : Rc) : Rc := ⟨r.a + x, r.b + y, r.c + x, r.d + y⟩
def plc (b : List Rc) (s : Sd) : List Rc := (turnB b s.t).map (shift s.x s.y)
def std (R : Rm) (b : List Rc) (s : Sd) : Bool := (plc b s).all (fit R)
def okR (R : Rm) : Prop := 1 ≤ R.w ∧ R.w ≤ 60 ∧ 1 ≤ R.h ∧ R.h ≤ 60 ∧ R.bl.length ≤ 16 ∧ ∀ r ∈ R.bl, 0 ≤ r.a ∧ r.a < r.c ∧ 0 ≤ r.b ∧ r.b < r.d ∧ r.c ≤ R.w ∧ r.d ≤ R.h
def okB (b : List Rc) : Prop := 1 ≤ b.length ∧ b.length ≤ 6 ∧ ∀ r ∈ b, -8 ≤ r.a ∧ r.a < r.c ∧ r.c ≤ 8 ∧ -8 ≤ r.b ∧ r.b < r.d ∧ r.d ≤ 8
def okS (s : Sd) : Prop := -200 ≤ s.x ∧ s.x ≤ 200 ∧ -200 ≤ s.y ∧ s.y ≤ 200 ∧ 0 ≤ s.t ∧ s.t ≤ 3
theorem quarter_ev (r : Rc) : g_quarter [rcD r] = some (rcD (quart r)) := rfl
theorem turned_by_ev (b : List Rc) (n : Int) (hn : 0 ≤ n ∧ n ≤ 1000000) (hl : b.length ≤ 100000) : g_turned_by [rcsD b, .int n] = some (rcsD (turnB b n)) ∧ (turnB b n).length = b.length := by
  have main : ∃ rho, B_turned_by (st0 4 [rcsD b, .int n]) = some (.ret (rcsD (turnB b n)), ⟨rho, none⟩) ∧ (turnB b n).length = b.length := by
    obtain ⟨s', h1, h2, c, rfl⟩ : ∃ s', sFor (iterA range1D (aCons (eVar 1) (aNil))) (gNm 2) (sSet 0 (eCall tupD (aCons (eComp (iterS (eVar 0)) (gNm 3) (eC (.bool true)) [3] (pEmit (eFn 1 g_quarter (aCons (eVar 3) (aNil))))) (aNil)))) (st0 4 [rcsD b, .int n]) = some (.next, s') ∧ (turnB b n).length = b.length ∧ ∃ c, s' = ⟨[.val (rcsD (turnB b n)), .val (.int n), c, .no], none⟩ := by
      refine for_inv (rng 0 n) PyData.int (fun (q : List Rc) s => q.length = b.length ∧ ∃ c, s = ⟨[.val (rcsD q), .val (.int n), c, .no], none⟩) (fun q _ => q.map quart) (range1_ev rfl (by omega)) ⟨rfl, .no, rfl⟩ ?_
      rintro q s x _ ⟨hq, c, rfl⟩
      refine ⟨_, _, rfl, .inl (sSet_ev (eCall_ev (aOne_ev (map_ev q rcD (fun r => rcD (quart r)) rfl rfl rfl (fun r _ => ⟨_, rfl, eFn_ev rfl rfl (quarter_ev r), rfl⟩) (by omega))) rfl)), ?_⟩
      refine ⟨by rw [List.length_map]; exact hq, .val (.int x), ?_⟩
      unfold rcsD
      rw [List.map_map]
      rfl
    exact ⟨_, sSeq_ev h1 rfl, h2⟩
  obtain ⟨rho, h1, h2⟩ := main
  exact ⟨fnV_ev h1, h2⟩
theorem fnL_ev {F : Fs} {n : Nat} {ds : List D} {d : D} {l : List C} (h : F (st0 n ds) = some (.retF d, ⟨l, none⟩)) : fnL n F ds = some d := by unfold fnL; rw [h]; rfl
theorem sRetF_ev {f : Fe} {s s1 : S} {d : D} (h : f s = some (d, s1)) : sRetF f s = some (.retF d, s1) := by unfold sRetF; rw [h]; rfl
theorem is_whole_ev (n lo hi : Int) : g_is_whole [.int n, .int lo, .int hi] = some (.bool (decide (lo ≤ n) && decide (n ≤ hi))) := by
  refine fnV_ev (rho := [.val (.int n), .val (.int lo), .val (.int hi)]) (sRet_ev ?_)
  refine eAnd_ev (p := true) (q := decide (lo ≤ n) && decide (n ≤ hi)) rfl fun _ => eAnd_ev (p := true) (q := decide (lo ≤ n) && decide (n ≤ hi)) rfl fun _ => ?_
  show (match PyData.bool (decide (lo ≤ n)) with | .bool true => _ | .bool false => _ | _ => _) = _
  cases h : decide (lo ≤ n) <;> rfl
theorem is_rect_ev (r : Rc) (lo hi : Int) (h : lo ≤ r.a ∧ r.a < r.c ∧ r.c ≤ hi ∧ lo ≤ r.b ∧ r.b < r.d ∧ r.d ≤ hi) : g_is_rect [rcD r, .int lo, .int hi] = some (.bool true) := by
  refine fnV_ev (rho := [.val (rcD r), .val (.int lo), .val (.int hi), .no]) (sSeq_ev (s1 := ⟨[.val (rcD r), .val (.int lo), .val (.int hi), .no], none⟩) (sIf_f ?_ rfl) (sRet_ev ?_))
  · refine eOr_ev (p := false) (q := false) rfl fun _ => eOr_ev (p := false) (q := false) rfl fun _ => not_ev (p := true) (eCall_ev (aOne_ev (map_ev [r.a, r.b, r.c, r.d] PyData.int (fun n => .bool (decide (lo ≤ n) && decide (n ≤ hi))) rfl rfl rfl (fun n _ => ⟨_, rfl, eFn_ev rfl rfl (is_whole_ev n lo hi), rfl⟩) (by simp))) ?_)
    rw [allD_map]
    simp
    omega
  · refine eAnd_ev (p := true) (q := true) ?_ fun _ => ?_
    · refine eBin_ev rfl rfl ?_
      show some (PyData.bool (decide (r.a < r.c))) = _
      rw [decide_eq_true h.2.1]
    · refine eBin_ev rfl rfl ?_
      show some (PyData.bool (decide (r.b < r.d))) = _
      rw [decide_eq_true h.2.2.2.2.1]
theorem is_body_ev (b : List Rc) (h : okB b) : g_is_body [rcsD b] = some (.bool true) := by
  obtain ⟨h1, h2, h3⟩ := h
  refine fnV_ev (rho := [.val (rcsD b), .no]) (sSeq_ev (s1 := ⟨[.val (rcsD b), .no], none⟩) (sIf_f ?_ rfl) (sRet_ev ?_))
  · refine eOr_ev (p := false) (q := false) rfl fun _ => not_ev (p := true) ?_
    show (match PyData.bool (decide ((1 : Int) ≤ ((b.map rcD).length : Int))) with | .bool true => _ | .bool false => _ | _ => _) = _
    rw [decide_eq_true (by rw [List.length_map]; omega)]
    show some (PyData.bool (decide (((b.map rcD).length : Int) ≤ 6)), _) = _
    rw [decide_eq_true (by rw [List.length_map]; omega)]
  · refine eCall_ev (aOne_ev (map_ev b rcD (fun r => .bool true) rfl rfl rfl (fun r hr => ⟨_, rfl, eFn_ev rfl rfl (is_rect_ev r (-8) 8 ?_), rfl⟩) (by omega))) ?_
    · have := h3 r hr
      omega
    · rw [allD_map]
      simp
theorem look_body_ev (b : List Rc) (h : okB b) : g_look_body [rcsD b] = some .none := fnV_next (rho := [.val (rcsD b)]) (sIf_f (not_ev (eFn_ev rfl rfl (is_body_ev b h))) rfl)
def mn (x : Int) : Int := if 0 < x then 0 else x
def mx (x : Int) : Int := if 0 > x then 0 else x
def ext (x y : Int) (r : Rc) : Rc := ⟨r.a + mn x, r.b + mn y, r.c + mx x, r.d + mx y⟩
def sld (R : Rm) (b : List Rc) (s : Sd) (x y : Int) : Bool := (plc b s).all fun r => fit R (ext x y r)
def abI (i : Int) : Int := if i < 0 then -i else i
def absR (r : Rc) : List Int := [abI r.a, abI r.b, abI r.c, abI r.d]
def frm (b : List Rc) : Int := maxI (b.flatMap absR)
theorem frame_of_ev (b : List Rc) (h : okB b) : g_frame_of [rcsD b] = some (.int (frm b)) := by
  have hlen : (b.flatMap fun r => (absR r).map PyData.int).length = 4 * b.length := by
    clear h
    induction b with
    | nil => rfl
    | cons r b ih => rw [List.flatMap_cons, List.length_append, ih, List.length_cons]; simp [absR]; omega
  refine fnV_ev (rho := [.val (rcsD b), .no, .no]) (sRet_ev (eCall_ev (aOne_ev (compg_ev b rcD (fun _ => true) (fun r => (absR r).map PyData.int) rfl rfl rfl (fun r hr => ⟨_, rfl, rfl, fun _ acc ha => ?_, rfl⟩) ?_)) ?_))
  · have q := pfor_ev (fi := iterS (eVar 1)) (g := gNm 2) (ft := eC (.bool true)) (f := eCall absD (aCons (eVar 2) aNil)) (vs := [2]) (s := ⟨[.val (rcsD b), .val (rcD r), .no], none⟩) (acc := acc) [r.a, r.b, r.c, r.d] PyData.int (fun _ => true) (fun n => .int (abI n)) rfl rfl (fun n _ => ⟨_, rfl, rfl, fun _ => rfl, rfl⟩) (by simp [absR] at ha; simp; omega)
    exact q
  · rw [List.filter_eq_self.mpr fun _ _ => rfl, hlen]
    have := h.2.1
    omega
  · rw [List.filter_eq_self.mpr fun _ _ => rfl]
    have e : (b.flatMap fun r => (absR r).map PyData.int) = (b.flatMap absR).map PyData.int := by rw [List.map_flatMap]
    rw [e]
    show (intsD ((b.flatMap absR).map PyData.int)).bind _ = _
    have e2 := intsD_map (fun n : Int => n) (b.flatMap absR)
    simp only [List.map_id'] at e2
    rw [e2, Option.bind_some, if_neg]
    · rfl
    · cases b with
      | nil => have := h.1; simp at this
      | cons r b => simp [absR]
def frR (x y f : Int) : Rc := ⟨x - f, y - f, x + f, y + f⟩
def dirs : List (Int × Int) := [(1, 0), (-1, 0), (0, 1), (0, -1)]
def lineS (R : Rm) (b : List Rc) (x y : Int) : List Sd := ((rng 0 4).filter fun t => std R b ⟨x, y, t⟩).map fun t => ⟨x, y, t⟩
def allS (R : Rm) (b : List Rc) : List Sd := (rng (-frm b) (R.w + frm b + 1)).flatMap fun x => (rng (-frm b) (R.h + frm b + 1)).flatMap fun y => lineS R b x y
theorem lineS_len (R : Rm) (b : List Rc) (x y : Int) : (lineS R b x y).length ≤ 4 := by
  unfold lineS
  rw [List.length_map]
  exact Nat.le_trans (List.length_filter_le _ _) (by rw [rng_len]; decide)
theorem maxI_le {ns : List Int} {M : Int} (h0 : ns ≠ []) (h : ∀ n ∈ ns, n ≤ M) : maxI ns ≤ M := by
  cases ns with
  | nil => exact absurd rfl h0
  | cons x r =>
    show r.foldl _ x ≤ M
    have hx := h x List.mem_cons_self
    have hr : ∀ n ∈ r, n ≤ M := fun n hn => h n (List.mem_cons_of_mem _ hn)
    clear h h0
    induction r generalizing x with
    | nil => exact hx
    | cons y r ih =>
      rw [List.foldl_cons]
      refine ih _ ?_ fun n hn => hr n (List.mem_cons_of_mem _ hn)
      split
      · exact hr y List.mem_cons_self
      · exact hx
theorem maxI_ge {ns : List Int} {n : Int} (h : n ∈ ns) : n ≤ maxI ns := by
  cases ns with
  | nil => cases h
  | cons x r =>
    show n ≤ r.foldl (fun a b => if b > a then b else a) x
    have gen : ∀ (r : List Int) (x : Int), x ≤ r.foldl (fun a b => if b > a then b else a) x ∧ ∀ y ∈ r, y ≤ r.foldl (fun a b => if b > a then b else a) x := by
      intro r
      induction r with
      | nil => exact fun x => ⟨Int.le_refl x, fun y hy => nomatch hy⟩
      | cons z r ih =>
        intro x
        rw [List.foldl_cons]
        obtain ⟨h1, h2⟩ := ih (if z > x then z else x)
        refine ⟨?_, fun y hy => ?_⟩
        · refine Int.le_trans ?_ h1
          split <;> omega
        · rcases List.mem_cons.mp hy with rfl | hy
          · refine Int.le_trans ?_ h1
            split <;> omega
          · exact h2 y hy
    rcases List.mem_cons.mp h with rfl | h
    · exact (gen r n).1
    · exact (gen r x).2 n h
theorem maxI_mem {ns : List Int} (h0 : ns ≠ []) : maxI ns ∈ ns := by
  cases ns with
  | nil => exact absurd rfl h0
  | cons x r =>
    show r.foldl (fun a b => if b > a then b else a) x ∈ x :: r
    have gen : ∀ (r : List Int) (x : Int), r.foldl (fun a b => if b > a then b else a) x = x ∨ r.foldl (fun a b => if b > a then b else a) x ∈ r := by
      intro r
      induction r with
      | nil => exact fun x => .inl rfl
      | cons z r ih =>
        intro x
        rw [List.foldl_cons]
        rcases ih (if z > x then z else x) with e | e
        · rw [e]
          split
          · exact .inr List.mem_cons_self
          · exact .inl rfl
        · exact .inr (List.mem_cons_of_mem _ e)
    rcases gen r x with e | e
    · rw [e]; exact List.mem_cons_self
    · exact List.mem_cons_of_mem _ e
theorem frm_spec {b : List Rc} (h : okB b) : (∀ r ∈ b, abI r.a ≤ frm b ∧ abI r.b ≤ frm b ∧ abI r.c ≤ frm b ∧ abI r.d ≤ frm b) ∧ (∃ r ∈ b, frm b ∈ absR r) := by
  have h0 : b.flatMap absR ≠ [] := by
    cases b with
    | nil => have := h.1; simp at this
    | cons r b => simp [absR]
  refine ⟨fun r hr => ?_, ?_⟩
  · have q : ∀ n ∈ absR r, n ≤ frm b := fun n hn => maxI_ge (List.mem_flatMap.mpr ⟨r, hr, hn⟩)
    exact ⟨q _ (by simp [absR]), q _ (by simp [absR]), q _ (by simp [absR]), q _ (by simp [absR])⟩
  · obtain ⟨r, hr, hn⟩ := List.mem_flatMap.mp (maxI_mem h0)
    exact ⟨r, hr, hn⟩
theorem frm_bd {b : List Rc} (h : okB b) : 0 ≤ frm b ∧ frm b ≤ 8 := by
  obtain ⟨h1, r, hr, hm⟩ := frm_spec h
  have := h.2.2 r hr
  simp only [absR, List.mem_cons, List.not_mem_nil, or_false, abI] at hm
  rcases hm with e | e | e | e <;> rw [e] <;> split <;> omega
end Fx

namespace Fx
open PySem PySem.Spec L2
/-! the law's own draws -/
theorem eFnT_ev {i n : Nat} {g : Tw → List D → Option (D × Tw)} {fa : Fa} {s : S} {rho : List C} {xs : List D} {d : D} {tw tw' : Tw} (h0 : s.rho[i]? = some .tn) (h1 : fa s = some (xs, ⟨rho, some tw⟩)) (hn : xs.length = n) (h3 : g tw xs = some (d, tw')) : eFnT i n g fa s = some (d, ⟨rho, some tw'⟩) := by
  unfold eFnT
  rw [h0]
  dsimp only
  rw [h1, Option.bind_some]
  dsimp only
  rw [Option.bind_some, if_pos hn, h3]
  rfl
theorem fnT_ev {n : Nat} {F : Fs} {tw tw' : Tw} {ds : List D} {d : D} {rho : List C} (h : F (st0T n tw ds) = some (.ret d, ⟨rho, some tw'⟩)) : fnT n F tw ds = some (d, tw') := by unfold fnT; rw [h]; rfl
theorem fnT_ex {n : Nat} {F : Fs} {tw tw' : Tw} {ds : List D} {d : D} (h : ∃ s', F (st0T n tw ds) = some (.ret d, s') ∧ s'.tw = some tw') : fnT n F tw ds = some (d, tw') := by
  obtain ⟨⟨rho, t⟩, h1, h2⟩ := h
  cases h2
  exact fnT_ev h1
theorem sPar_ev {i j : Nat} {fa : Fa} {s s1 : S} {a b : D} (h : fa s = some ([a, b], s1)) : sPar i j fa s = some (.next, (s1.put i (.val a)).put j (.val b)) := by
  unfold sPar
  rw [h]
  rfl
theorem modD_ev {a b : Int} (h : 0 < b) : modD (.int a) (.int b) = some (.int (a % b)) := by
  show (if _ then some (PyData.int (a % b)) else none) = _
  rw [if_pos h]
theorem divD_ev {a b : Int} (h : 0 < b ∧ b < 1073741824) : divD (.int a) (.int b) = some (.int (a / b)) := by
  show (if _ then some (PyData.int (a / b)) else none) = _
  rw [if_pos h]
theorem powD_ev {a b : Int} (h : 0 ≤ b ∧ b ≤ 1000000 ∧ a.natAbs < 2 ^ 64) : powD (.int a) (.int b) = some (.int (a ^ b.toNat)) := by
  show (if _ then some (PyData.int (a ^ b.toNat)) else none) = _
  rw [if_pos h]
theorem draw_ev (row : List Int) (m c : Int) (hr : row ≠ []) (hc : 0 < c ∧ c < 1073741824) : ∃ n row', g__law_draw (row, m) [.int c] = some (.int n, (row', m + 1)) ∧ 0 ≤ n ∧ n < c ∧ row' ≠ [] := by
  have hl : (0 : Int) < (row.length : Int) := by
    cases row with
    | nil => exact absurd rfl hr
    | cons _ _ => simp
  have i0 := Int.emod_nonneg (m + 1) (Int.ne_of_gt hl)
  have i1 := Int.emod_lt_of_pos (m + 1) hl
  obtain ⟨k, hk⟩ : ∃ k : Nat, (m + 1) % (row.length : Int) = k := ⟨((m + 1) % (row.length : Int)).toNat, by omega⟩
  have hkl : k < row.length := by omega
  have hix : ixN row.length ((m + 1) % (row.length : Int)) = some k := by
    unfold ixN
    rw [if_pos i0, if_pos i1, hk]
    rfl
  have hat : atI row ((m + 1) % (row.length : Int)) = some row[k] := by
    unfold atI
    rw [hix, Option.bind_some, List.getElem?_eq_getElem hkl]
  generalize hcell : row[k] = cell at hat
  have e3 : (eBin modD (eTw1 0) (eRowLen 2)) ⟨[.tn, .val (.int c), .rw, .no, .no, .no], some (row, m + 1)⟩ = some (.int ((m + 1) % (row.length : Int)), ⟨[.tn, .val (.int c), .rw, .no, .no, .no], some (row, m + 1)⟩) := eBin_ev rfl rfl (modD_ev hl)
  have e4 : (eRowAt 2 (eVar 3)) ⟨[.tn, .val (.int c), .rw, .val (.int ((m + 1) % (row.length : Int))), .no, .no], some (row, m + 1)⟩ = some (.int cell, ⟨[.tn, .val (.int c), .rw, .val (.int ((m + 1) % (row.length : Int))), .no, .no], some (row, m + 1)⟩) := by
    show (atI row ((m + 1) % (row.length : Int))).map _ = _
    rw [hat]
    rfl
  by_cases hb : cell ≥ 1000000000000000000
  · refine ⟨cell % c, row.set k (cell / c), ?_, Int.emod_nonneg _ (by omega), Int.emod_lt_of_pos _ hc.1, fun z => hr (by have := congrArg List.length z; rw [List.length_set] at this; exact List.eq_nil_of_length_eq_zero (by simpa using this))⟩
    refine fnT_ev (rho := [.tn, .val (.int c), .rw, .val (.int ((m + 1) % (row.length : Int))), .val (.int cell), .no]) (sSeq_ev rfl (sSeq_ev rfl (sSeq_ev (sSet_ev e3) (sSeq_ev (sSet_ev e4) (sSeq_ret (sIf_t (eBin_ev rfl rfl ?_) (sSeq_ev (s1 := ⟨[.tn, .val (.int c), .rw, .val (.int ((m + 1) % (row.length : Int))), .val (.int cell), .no], some (row.set k (cell / c), m + 1)⟩) ?_ (sRet_ev (eBin_ev rfl rfl (modD_ev hc.1))))) (fun z => nomatch z))))))
    · show some (PyData.bool (decide (1000000000000000000 ≤ cell))) = _
      rw [decide_eq_true hb]
    · show (eBin divD (eVar 4) (eVar 1) _).bind _ = _
      rw [eBin_ev rfl rfl (divD_ev hc)]
      show (ixN row.length ((m + 1) % (row.length : Int))).map _ = _
      rw [hix]
      rfl
  · refine ⟨_, row, fnT_ev (sSeq_ev rfl (sSeq_ev rfl (sSeq_ev (sSet_ev e3) (sSeq_ev (sSet_ev e4) (sSeq_ev (sIf_f (eBin_ev rfl rfl ?_) rfl) (sSeq_ev (sSet_ev (eBin_ev (eBin_ev rfl (eBin_ev rfl rfl (mulD_ev (.inl (by omega)))) rfl) rfl (modD_ev (by omega)))) (sSeq_ev (sSet_ev (eBin_ev (eBin_ev rfl rfl (powD_ev ⟨by decide, by decide, ?_⟩)) rfl (modD_ev (by decide)))) (sRet_ev (eBin_ev (eBin_ev (eBin_ev (eBin_ev (eBin_ev (eBin_ev rfl rfl (divD_ev (by decide))) rfl (mulD_ev (.inr (by decide)))) rfl rfl) rfl (modD_ev (by decide))) rfl (divD_ev (by decide))) rfl (modD_ev hc.1)))))))))), ?_⟩
    · show some (PyData.bool (decide (1000000000000000000 ≤ cell))) = _
      rw [decide_eq_false (by omega)]
    · have a0 := Int.emod_nonneg (cell + 104729 * (m + 1)) (show (4294967291 : Int) ≠ 0 by decide)
      have a1 := Int.emod_lt_of_pos (cell + 104729 * (m + 1)) (show (0 : Int) < 4294967291 by decide)
      omega
    · exact ⟨Int.emod_nonneg _ (by omega), Int.emod_lt_of_pos _ hc.1, hr⟩
def okT (tw : Tw) : Prop := tw.1 ≠ []
theorem draw {tw : Tw} (h : okT tw) (c : Int) (hc : 0 < c ∧ c < 1073741824) : ∃ n tw', g__law_draw tw [.int c] = some (.int n, tw') ∧ 0 ≤ n ∧ n < c ∧ okT tw' := by
  obtain ⟨n, row', h1, h2, h3, h4⟩ := draw_ev tw.1 tw.2 c h hc
  exact ⟨n, _, h1, h2, h3, h4⟩
theorem sApp_ev {i : Nat} {f : Fe} {s s1 : S} {d : D} {ds0 ds : List D} (h0 : s.ownL i = some ds0) (h : f s = some (d, s1)) (h1 : s1.ownL i = some ds) (hl : ds.length < 100000) : sApp i f s = some (.next, s1.put i (.own (.list (ds ++ [d])))) := by
  unfold sApp
  simp only [h0, h, h1, Option.bind_some, if_pos hl]
theorem sFrz_ev {i : Nat} {F : Fs} {s s1 : S} {r : Option (Fl × S)} (h : s.frz i = some s1) (h2 : F s1 = r) : sFrz i F s = r := by
  unfold sFrz
  rw [h]
  exact h2
def smallR (R : Rm) : Prop := 2 ≤ R.w ∧ R.w ≤ 6 ∧ 2 ≤ R.h ∧ R.h ≤ 6 ∧ R.bl.length ≤ 4 ∧ ∀ r ∈ R.bl, 0 ≤ r.a ∧ r.a < r.c ∧ r.c ≤ r.a + 3 ∧ r.c ≤ R.w ∧ 0 ≤ r.b ∧ r.b < r.d ∧ r.d ≤ r.b + 3 ∧ r.d ≤ R.h
theorem smallR.ok {R : Rm} (h : smallR R) : okR R := by
  obtain ⟨h1, h2, h3, h4, h5, h6⟩ := h
  refine ⟨by omega, by omega, by omega, by omega, by omega, fun r hr => ?_⟩
  have := h6 r hr
  omega
theorem min3 (n : Int) : (if n < 3 then n else 3) ≤ 3 ∧ (if n < 3 then n else 3) ≤ n ∧ (0 < n → 0 < (if n < 3 then n else (3 : Int))) := by
  split <;> omega
theorem clT_ev {α β : Type} {g : Fg} {f : Fe} {vs : List Nat} {rho : List C} (enc : α → D) (out : β → D) (Good : β → Prop) : ∀ {xs : List α} {acc : List D} {t : Tw}, okT t → acc.length + xs.length ≤ 100000 → (∀ x ∈ xs, ∀ t, okT t → ∃ rhox o t', g (enc x) ⟨rho, some t⟩ = some ⟨rhox, some t⟩ ∧ f ⟨rhox, some t⟩ = some (out o, ⟨rhox, some t'⟩) ∧ Good o ∧ okT t' ∧ (⟨rhox, some t'⟩ : S).wipe vs = ⟨rho, some t'⟩) →
    ∃ (os : List β) (t' : Tw), clLoop g (eC (.bool true)) vs (pEmit f) (xs.map enc) acc ⟨rho, some t⟩ = some (acc ++ os.map out, ⟨rho, some t'⟩) ∧ os.length = xs.length ∧ (∀ o ∈ os, Good o) ∧ okT t'
  | [], acc, t, ot, _, _ => ⟨[], t, by simp [clLoop], rfl, fun o ho => (nomatch ho), ot⟩
  | x :: xs, acc, t, ot, hl, h => by
    rw [List.length_cons] at hl
    obtain ⟨rhox, o, t', h1, h2, h3, h4, h5⟩ := h x List.mem_cons_self t ot
    obtain ⟨os, t2, k1, k2, k3, k4⟩ := clT_ev enc out Good (g := g) (f := f) (vs := vs) (rho := rho) (xs := xs) (acc := acc ++ [out o]) h4 (by rw [List.length_append, List.length_singleton]; omega) (fun y hy => h y (List.mem_cons_of_mem _ hy))
    refine ⟨o :: os, t2, ?_, by rw [List.length_cons, List.length_cons, k2], fun q hq => ?_, k4⟩
    · rw [List.map_cons]
      unfold clLoop
      rw [h1, Option.bind_some]
      show (pEmit f acc ⟨rhox, some t⟩).bind _ = _
      unfold pEmit
      rw [h2, Option.bind_some]
      dsimp only
      rw [if_pos (by omega), Option.bind_some]
      dsimp only
      rw [h5]
      unfold pEmit at k1
      rw [k1, List.map_cons, List.append_assoc]
      rfl
    · rcases List.mem_cons.mp hq with rfl | hq
      · exact h3
      · exact k3 q hq
def smallB (b : List Rc) : Prop := 1 ≤ b.length ∧ b.length ≤ 2 ∧ ∀ r ∈ b, -2 ≤ r.a ∧ r.a < r.c ∧ r.c ≤ 2 ∧ -2 ≤ r.b ∧ r.b < r.d ∧ r.d ≤ 2
theorem smallB.ok {b : List Rc} (h : smallB b) : okB b := by
  obtain ⟨h1, h2, h3⟩ := h
  refine ⟨h1, by omega, fun r hr => ?_⟩
  have := h3 r hr
  omega
theorem rect_ev {tw : Tw} (h : okT tw) : ∃ r tw', g__law_rect tw [.int 2] = some (rcD r, tw') ∧ (-2 ≤ r.a ∧ r.a < r.c ∧ r.c ≤ 2 ∧ -2 ≤ r.b ∧ r.b < r.d ∧ r.d ≤ 2) ∧ okT tw' := by
  obtain ⟨n1, t1, e1, a1, b1, o1⟩ := draw h 4 (by decide)
  obtain ⟨n2, t2, e2, a2, b2, o2⟩ := draw o1 4 (by decide)
  obtain ⟨n3, t3, e3, a3, b3, o3⟩ := draw o2 (2 - (n1 - 2)) (by omega)
  obtain ⟨n4, t4, e4, a4, b4, o4⟩ := draw o3 (2 - (n2 - 2)) (by omega)
  refine ⟨⟨n1 - 2, n2 - 2, n1 - 2 + 1 + n3, n2 - 2 + 1 + n4⟩, t4, ?_, by dsimp only; omega, o4⟩
  have z : (aCons (eBin mulD (eC (.int 2)) (eVar 1)) aNil) ⟨[.tn, .val (.int 2), .no, .no], some tw⟩ = some ([.int 4], ⟨[.tn, .val (.int 2), .no, .no], some tw⟩) := aOne_ev (eBin_ev rfl rfl (mulD_ev (.inl (by decide))))
  have z1 : (aCons (eBin mulD (eC (.int 2)) (eVar 1)) aNil) ⟨[.tn, .val (.int 2), .no, .no], some t1⟩ = some ([.int 4], ⟨[.tn, .val (.int 2), .no, .no], some t1⟩) := aOne_ev (eBin_ev rfl rfl (mulD_ev (.inl (by decide))))
  refine fnT_ex (ex_of (sSeq_ev (sPar_ev (aCons_ev (eBin_ev (eFnT_ev rfl z rfl e1) rfl rfl) (aOne_ev (eBin_ev (eFnT_ev rfl z1 rfl e2) rfl rfl)))) (sRet_ev (eTup_ev (aCons_ev rfl (aCons_ev rfl (aCons_ev (eBin_ev rfl (eFnT_ev rfl rfl rfl e3) rfl) (aOne_ev (eBin_ev rfl (eFnT_ev rfl rfl rfl e4) rfl))))) (by simp)))) rfl)
end Fx

namespace Fx
open PySem PySem.Spec L2
/-! rows of ints as data -/
abbrev kD (k : List Int) : D := .tuple (k.map PyData.int)
theorem canLay_ints : ∀ k : List Int, PyData.canLayAll0 (k.map PyData.int) = true
  | [] => rfl
  | n :: k => by show (PyData.canLay0 (.int n) && PyData.canLayAll0 (k.map PyData.int)) = true; rw [canLay_ints k]; rfl
theorem canLay_kD (k : List Int) : PyData.canLay0 (kD k) = true := by
  show PyData.canLayAll0 (k.map PyData.int) = true
  exact canLay_ints k
theorem depth_kD (k : List Int) : PyData.depth (kD k) = 1 := by
  show PyData.depthAll (k.map PyData.int) + 1 = 1
  rw [PySem.W.depth_ints]
theorem shaped_kD (k : List Int) : SeqAt.shaped (kD k) = true := by
  unfold SeqAt.shaped
  rw [canLay_kD, depth_kD]
  rfl
theorem rows_lay : ∀ ks : List (List Int), PyData.canLayAll0 (ks.map kD) = true ∧ PyData.depthAll (ks.map kD) ≤ 1
  | [] => ⟨rfl, Nat.zero_le _⟩
  | k :: ks => by
    obtain ⟨h1, h2⟩ := rows_lay ks
    constructor
    · show (PyData.canLay0 (kD k) && PyData.canLayAll0 (ks.map kD)) = true
      rw [canLay_kD, h1]
      rfl
    · show max (PyData.depth (kD k)) (PyData.depthAll (ks.map kD)) ≤ 1
      rw [depth_kD]
      omega
theorem shaped_rows (ks : List (List Int)) : SeqAt.shaped (.list (ks.map kD)) = true := by
  obtain ⟨h1, h2⟩ := rows_lay ks
  unfold SeqAt.shaped
  rw [show PyData.canLay0 (.list (ks.map kD)) = PyData.canLayAll0 (ks.map kD) from rfl, h1, show PyData.depth (.list (ks.map kD)) = PyData.depthAll (ks.map kD) + 1 from rfl]
  have : PyData.depthAll (ks.map kD) + 1 ≤ 60 := by omega
  simp [this]
  omega
theorem eqv_ints : ∀ k l : List Int, PyData.eqvAll (k.map PyData.int) (l.map PyData.int) = decide (k = l)
  | [], [] => rfl
  | [], _ :: _ => rfl
  | _ :: _, [] => rfl
  | x :: k, y :: l => by
    show ((x == y) && PyData.eqvAll (k.map PyData.int) (l.map PyData.int)) = _
    rw [eqv_ints k l]
    by_cases h : x = y <;> by_cases h2 : k = l <;> simp [h, h2]
theorem eqv_kD (k l : List Int) : PyData.eqv (kD k) (kD l) = decide (k = l) := eqv_ints k l
theorem eqv_rows : ∀ ks ls : List (List Int), PyData.eqvAll (ks.map kD) (ls.map kD) = decide (ks = ls)
  | [], [] => rfl
  | [], _ :: _ => rfl
  | _ :: _, [] => rfl
  | x :: k, y :: l => by
    show (PyData.eqv (kD x) (kD y) && PyData.eqvAll (k.map kD) (l.map kD)) = _
    rw [eqv_rows k l, eqv_kD]
    by_cases h : x = y <;> by_cases h2 : k = l <;> simp [h, h2]
theorem any_eqv (ks : List (List Int)) (k : List Int) : (ks.map kD).any (fun z => PyData.eqv z (kD k)) = decide (k ∈ ks) := by
  induction ks with
  | nil => rfl
  | cons x ks ih =>
    rw [List.map_cons, List.any_cons, ih, eqv_kD]
    by_cases h : x = k
    · simp [h]
    · have h' : ¬ k = x := fun z => h z.symm
      simp [h, h']
theorem notInD_ev (ks : List (List Int)) (k : List Int) : notInD (kD k) (.list (ks.map kD)) = some (.bool (!decide (k ∈ ks))) := by
  unfold notInD
  show (if SeqAt.shaped (kD k) = true ∧ SeqAt.shaped (.list (ks.map kD)) = true then _ else _) = _
  rw [if_pos ⟨shaped_kD k, shaped_rows ks⟩, any_eqv]
/-! dicts whose keys are such rows -/
def entK (ks : List (List Int)) : List (D × D) := ks.map fun k => (kD k, .bool true)
theorem keyY_kD {k : List Int} (h : k ≠ []) : keyY (kD k) = some (.t (k.map Sum.inl)) := by
  have e : kD k = .tuple ((k.map Sum.inl).map keyD) := by unfold kD; rw [List.map_map]; rfl
  rw [e]
  exact keyY_t (by simpa using h)
theorem key_inj {k l : List Int} : (KY.t (k.map (Sum.inl : Int → Key)) = .t (l.map Sum.inl)) ↔ k = l := by
  constructor
  · intro h
    injection h with h
    exact (List.map_inj_right fun a b e => Sum.inl.inj e).mp h
  · rintro rfl; rfl
theorem isN_kD (k : List Int) : isN (kD k) = false := by
  show (k.map PyData.int).any isTup = false
  rw [List.any_map, List.any_eq_false]
  exact fun _ _ => Bool.false_ne_true
theorem okY_kD (k : List Int) (d : D) (r : List (D × D)) (q : List Key) : okY ((kD k, d) :: r) (.t q) = true := by
  show (isT (kD k) && !isN (kD k)) = true
  rw [isN_kD]
  rfl
theorem flatK_kD {k : List Int} (h : k ≠ []) : flatK (kD k) = true := by
  unfold flatK
  rw [keyY_kD h]
theorem okY_ent (ks : List (List Int)) (q : List Key) : okY (entK ks) (.t q) = true := by
  cases ks with
  | nil => rfl
  | cons k r => exact okY_kD k _ _ q
theorem lookY_ent {k : List Int} : ∀ {ks : List (List Int)}, (∀ l ∈ ks, l ≠ []) → lookY (entK ks) (.t (k.map Sum.inl)) = if k ∈ ks then some (.bool true) else none
  | [], _ => rfl
  | l :: ks, h => by
    show (if keyY (kD l) = some (.t (k.map Sum.inl)) then some (PyData.bool true) else lookY (entK ks) (.t (k.map Sum.inl))) = _
    rw [keyY_kD (h l List.mem_cons_self), lookY_ent fun x hx => h x (List.mem_cons_of_mem _ hx)]
    by_cases e : l = k
    · subst e
      rw [if_pos rfl, if_pos List.mem_cons_self]
    · rw [if_neg (fun z => e (key_inj.mp (Option.some.inj z)))]
      by_cases m : k ∈ ks
      · rw [if_pos m, if_pos (List.mem_cons_of_mem _ m)]
      · rw [if_neg m, if_neg (fun z => (List.mem_cons.mp z).elim (fun z => e z.symm) m)]
theorem putY_ent {k : List Int} {ks : List (List Int)} (h : ∀ l ∈ ks, l ≠ []) (hk : k ∉ ks) : putY (entK ks) (.t (k.map Sum.inl)) (.bool true) = entK (ks ++ [k]) := by
  unfold putY
  rw [lookY_ent h, if_neg hk]
  unfold entK
  rw [List.map_append]
  show _ ++ [(PyData.tuple ((k.map Sum.inl).map keyD), _)] = _
  rw [List.map_map]
  rfl
theorem getY_ent {k : List Int} {ks : List (List Int)} (h : ∀ l ∈ ks, l ≠ []) (hk : k ≠ []) : getY (.dict (entK ks)) (kD k) = some (if k ∈ ks then some (.bool true) else none) := by
  show (keyY (kD k)).bind _ = _
  rw [keyY_kD hk, Option.bind_some, if_pos (okY_ent _ _), lookY_ent h]
theorem inY_ev {k : List Int} {ks : List (List Int)} (h : ∀ l ∈ ks, l ≠ []) (hk : k ≠ []) : inY (kD k) (.dict (entK ks)) = some (.bool (decide (k ∈ ks))) := by
  unfold inY
  rw [getY_ent h hk]
  by_cases m : k ∈ ks <;> simp [m, isSomeB]
theorem notInY_ev {k : List Int} {ks : List (List Int)} (h : ∀ l ∈ ks, l ≠ []) (hk : k ≠ []) : notInY (kD k) (.dict (entK ks)) = some (.bool (!decide (k ∈ ks))) := by
  unfold notInY
  rw [getY_ent h hk]
  by_cases m : k ∈ ks <;> simp [m, isSomeB]
theorem sPutY_ev {i : Nat} {fk fv : Fe} {s : S} {k : List Int} {ks : List (List Int)} (h0 : s.ownY i = some (entK ks)) (hv : fv s = some (.bool true, s)) (hk : fk s = some (kD k, s)) (h : ∀ l ∈ ks, l ≠ []) (hn : k ≠ []) (hm : k ∉ ks) (hl : ks.length < 100000) : sPutY i fk fv s = some (.next, s.put i (.own (.dict (entK (ks ++ [k]))))) := by
  unfold sPutY
  rw [hv, Option.bind_some]
  dsimp only
  rw [h0, Option.bind_some, hk, Option.bind_some]
  dsimp only
  rw [h0, Option.bind_some, keyY_kD hn, Option.bind_some, if_pos ⟨okY_ent _ _, by unfold entK; rw [List.length_map]; exact hl⟩, putY_ent h hm]
theorem keysD_ev (ks : List (List Int)) : keysD (.dict (entK ks)) = some (ks.map kD) := by
  show (if okY (entK ks) (.t []) = true then some ((entK ks).map (·.1)) else none) = _
  rw [if_pos (okY_ent _ _)]
  unfold entK
  rw [List.map_map]
  rfl
/-! sorting rows -/
theorem leK (k l : List Int) : PySem.W.dataLe false id (kD k) (kD l) = leR k l := by
  show (!PySem.W.dataLt (kD l) (kD k)) = _
  rw [PySem.W.dataLt_tuple, leR_le]
  show (!PySem.W.rowLt (l.map .int) (k.map .int)) = _
  rw [PySem.W.dataLt_ints]
  by_cases q : l < k
  · have h' : ¬ k ≤ l := fun r => List.not_lt.mpr r q
    simp [q, h']
  · have h' : k ≤ l := List.not_lt.mp q
    simp [q, h']
theorem sortL_rows (ks : List (List Int)) : sortL (ks.map kD) = (ks.mergeSort leR).map kD := by
  unfold sortL
  rw [← PySem.W.sort_maps kD (fun a _ b _ => (leK a b).symm)]
theorem sortedD_ev {ks : List (List Int)} (hn : ∀ k ∈ ks, k ≠ []) : sortedD [.list (ks.map kD)] = some (.list ((ks.mergeSort leR).map kD)) := by
  show (if alikeB (ks.map kD) = true ∧ sortableB (ks.map kD) = true ∧ shapedB (ks.map kD) = true then _ else _) = _
  rw [if_pos, sortL_rows]
  refine ⟨?_, ?_, ?_⟩
  · unfold alikeB
    rw [List.all_eq_true]
    intro d hd
    rw [List.all_eq_true]
    intro e he
    obtain ⟨k, _, rfl⟩ := List.mem_map.mp hd
    obtain ⟨l, _, rfl⟩ := List.mem_map.mp he
    simp only [PySem.W.alike]
    exact PySem.W.alike_ints k l
  · unfold sortableB
    rw [Bool.or_eq_true]
    left
    rw [List.all_eq_true]
    intro d hd
    obtain ⟨k, hk, rfl⟩ := List.mem_map.mp hd
    cases k with
    | nil => exact absurd rfl (hn _ hk)
    | cons x r => rfl
  · unfold shapedB
    rw [List.all_eq_true]
    intro d hd
    obtain ⟨k, _, rfl⟩ := List.mem_map.mp hd
    rw [canLay_kD, depth_kD]
    rfl
theorem catD_ev {a b : List D} (h : a.length + b.length ≤ 100000) : catD (.list a) (.list b) = some (.list (a ++ b)) := by
  show (if _ then some _ else none) = _
  rw [if_pos h]
/-! squares -/
def sqL (r : Rc) : List (List Int) := (rng r.a r.c).flatMap fun x => (rng r.b r.d).map fun y => [x, y]
theorem mem_sqL {r : Rc} {k : List Int} : k ∈ sqL r ↔ ∃ x y, k = [x, y] ∧ r.a ≤ x ∧ x < r.c ∧ r.b ≤ y ∧ y < r.d := by
  unfold sqL
  rw [List.mem_flatMap]
  constructor
  · rintro ⟨x, hx, hk⟩
    obtain ⟨y, hy, rfl⟩ := List.mem_map.mp hk
    rw [mem_rng] at hx hy
    exact ⟨x, y, rfl, hx.1, hx.2, hy.1, hy.2⟩
  · rintro ⟨x, y, rfl, h1, h2, h3, h4⟩
    exact ⟨x, mem_rng.mpr ⟨h1, h2⟩, List.mem_map.mpr ⟨y, mem_rng.mpr ⟨h3, h4⟩, rfl⟩⟩
theorem rowsI_map : ∀ k : List Int, rowsI (k.map PyData.int) = some k
  | [] => rfl
  | n :: k => by show (rowsI (k.map PyData.int)).map _ = _; rw [rowsI_map k]; rfl
theorem rowsT_map : ∀ {ks : List (List Int)}, (∀ k ∈ ks, k ≠ []) → rowsT (ks.map kD) = some ks
  | [], _ => rfl
  | [] :: ks, h => absurd rfl (h [] List.mem_cons_self)
  | (x :: k) :: ks, h => by
    show (rowsI (.int x :: k.map PyData.int)).bind _ = _
    rw [show rowsI (.int x :: k.map PyData.int) = some (x :: k) from rowsI_map (x :: k), Option.bind_some]
    show (rowsT (ks.map kD)).map _ = _
    rw [rowsT_map fun l hl => h l (List.mem_cons_of_mem _ hl)]
    rfl
/-- what sorted(set(..)) gives: the same rows, each once -/
theorem ddR_len : ∀ xs : List (List Int), (dd xs).length ≤ xs.length
  | [] => Nat.le_refl _
  | a :: r => by
    have := ddR_len r
    unfold dd
    split
    · rw [List.length_cons]; omega
    · rw [List.length_cons, List.length_cons]; omega
theorem sortSet_ev2 {ks : List (List Int)} (h : ∀ k ∈ ks, k ≠ []) (hl : ks.length ≤ 4000) (hd : (dd ks).length ≤ 300) : ∃ cs : List (List Int), sortSetD (.list (ks.map kD)) = some (.list (cs.map kD)) ∧ (∀ k, k ∈ cs ↔ k ∈ ks) ∧ cs.length ≤ (dd ks).length ∧ cs.Nodup := by
  cases ks with
  | nil => exact ⟨[], rfl, fun k => Iff.rfl, Nat.zero_le _, List.nodup_nil⟩
  | cons k ks =>
    refine ⟨sortR (k :: ks), ?_, fun l => ?_, ?_, ?_⟩
    · unfold sortSetD
      dsimp only
      have e : rowsI ((k :: ks).map kD) = none := rfl
      rw [e, rowsT_map h]
      dsimp only
      rw [if_pos ⟨hl, hd⟩]
      rfl
    · unfold sortR
      rw [(isort_perm leR _).mem_iff, mem_dd]
    · unfold sortR
      rw [(isort_perm leR _).length_eq]
      exact Nat.le_refl _
    · unfold sortR
      exact (isort_perm leR _).nodup_iff.mpr (nodup_dd _)
theorem sortSet_ev {ks : List (List Int)} (h : ∀ k ∈ ks, k ≠ []) (hl : ks.length < 64) : ∃ cs : List (List Int), sortSetD (.list (ks.map kD)) = some (.list (cs.map kD)) ∧ (∀ k, k ∈ cs ↔ k ∈ ks) ∧ cs.length ≤ ks.length := by
  have := ddR_len ks
  obtain ⟨cs, e1, e2, e3, _⟩ := sortSet_ev2 h (by omega) (by omega)
  exact ⟨cs, e1, e2, by omega⟩
theorem cells_ev2 {c : D} (rs : List Rc) (hc : seqD c = some (rs.map rcD)) (hb : ∀ r ∈ rs, -1000 ≤ r.a ∧ r.a ≤ 1000 ∧ -1000 ≤ r.b ∧ r.b ≤ 1000 ∧ -1000 ≤ r.c ∧ r.c ≤ 1000 ∧ -1000 ≤ r.d ∧ r.d ≤ 1000) (hl : (rs.flatMap sqL).length ≤ 4000) (hd : (dd (rs.flatMap sqL)).length ≤ 300) : ∃ cs : List (List Int), g__law_cells [c] = some (.list (cs.map kD)) ∧ (∀ k, k ∈ cs ↔ ∃ r ∈ rs, k ∈ sqL r) ∧ cs.length ≤ 300 ∧ cs.Nodup := by
  have ne : ∀ k ∈ rs.flatMap sqL, k ≠ [] := fun k hk => by
    obtain ⟨r, _, hk⟩ := List.mem_flatMap.mp hk
    obtain ⟨x, y, rfl, _⟩ := mem_sqL.mp hk
    exact fun z => nomatch z
  obtain ⟨cs, e1, e2, e3, e4⟩ := sortSet_ev2 ne hl hd
  refine ⟨cs, ?_, fun k => by rw [e2 k, List.mem_flatMap], by omega, e4⟩
  refine fnV_ex ?_
  refine seq_ex (P := fun s => s = ⟨[.val c, .val (.list []), .no, .no, .no, .no, .no, .no], none⟩) (ex_of rfl rfl) ?_
  rintro _ rfl
  refine seq_ex (for_pre rs rcD (fun pre s => ∃ c2 c3 c4 c5 c6, s = ⟨[.val c, .val (.list ((pre.flatMap sqL).map kD)), c2, c3, c4, c5, c6, .no], none⟩) (iterS_ev rfl hc) ⟨_, _, _, _, _, rfl⟩ ?_) ?_
  · rintro pre r suf _ hall ⟨c2, c3, c4, c5, c6, rfl⟩
    have hr : r ∈ rs := by rw [hall]; simp
    have bd := hb r hr
    have hle : (pre.flatMap sqL).length + (sqL r).length ≤ 4000 := by
      rw [hall, List.flatMap_append, List.flatMap_cons] at hl
      simp only [List.length_append] at hl
      omega
    obtain ⟨s2, h1, c, rfl⟩ : ∃ s2, (sFor (iterA range2D (aCons (eVar 2) (aCons (eVar 4) (aNil)))) (gNm 6)
        (sSet 1 (eBin catD (eVar 1) (eComp (iterA range2D (aCons (eVar 3) (aCons (eVar 5) (aNil)))) (gNm 7) (eC (.bool true)) [7] (pEmit (eTup (aCons (eVar 6) (aCons (eVar 7) (aNil))))))))) ⟨[.val c, .val (.list ((pre.flatMap sqL).map kD)), .val (.int r.a), .val (.int r.b), .val (.int r.c), .val (.int r.d), c6, .no], none⟩ = some (.next, s2) ∧ ∃ c', s2 = ⟨[.val c, .val (.list ((pre.flatMap sqL).map kD ++ (sqL r).map kD)), .val (.int r.a), .val (.int r.b), .val (.int r.c), .val (.int r.d), c', .no], none⟩ := by
      refine for_pre (rng r.a r.c) PyData.int (fun pr s => ∃ c', s = ⟨[.val c, .val (.list ((pre.flatMap sqL).map kD ++ (pr.flatMap fun x => (rng r.b r.d).map fun y => [x, y]).map kD)), .val (.int r.a), .val (.int r.b), .val (.int r.c), .val (.int r.d), c', .no], none⟩) (range2_ev rfl (by omega)) ⟨c6, by simp⟩ ?_
      rintro pr x suf' _ hall' ⟨c', rfl⟩
      have hle2 : (pr.flatMap fun x => (rng r.b r.d).map fun y => [x, y]).length + (rng r.b r.d).length ≤ (sqL r).length := by
        unfold sqL
        rw [hall', List.flatMap_append, List.flatMap_cons]
        simp only [List.length_append, List.length_map]
        omega
      have q := map_ev (fi := iterA range2D (aCons (eVar 3) (aCons (eVar 5) (aNil)))) (g := gNm 7) (f := eTup (aCons (eVar 6) (aCons (eVar 7) (aNil)))) (vs := [7]) (s := ⟨[.val c, .val (.list ((pre.flatMap sqL).map kD ++ (pr.flatMap fun x => (rng r.b r.d).map fun y => [x, y]).map kD)), .val (.int r.a), .val (.int r.b), .val (.int r.c), .val (.int r.d), .val (.int x), .no], none⟩) (rng r.b r.d) PyData.int (fun y => kD [x, y]) (range2_ev rfl (by omega)) rfl rfl (fun y _ => ⟨_, rfl, rfl, rfl⟩) (by rw [rng_len]; omega)
      refine ⟨_, _, rfl, .inl (sSet_ev (eBin_ev rfl q (catD_ev ?_))), .val (.int x), ?_⟩
      · simp only [List.length_append, List.length_map]
        omega
      · rw [List.flatMap_append, List.flatMap_cons, List.flatMap_nil, List.append_nil, List.map_append, List.map_map, ← List.append_assoc]
        rfl
    refine ⟨_, _, rfl, .inl h1, .val (.int r.a), .val (.int r.b), .val (.int r.c), .val (.int r.d), c, ?_⟩
    rw [List.flatMap_append, List.flatMap_cons, List.flatMap_nil, List.append_nil, List.map_append]
  · rintro _ ⟨c2, c3, c4, c5, c6, rfl⟩
    exact ex_of (sRet_ev (eUn_ev rfl e1)) rfl
theorem cells_ev {c : D} (rs : List Rc) (hc : seqD c = some (rs.map rcD)) (hb : ∀ r ∈ rs, -1000 ≤ r.a ∧ r.a ≤ 1000 ∧ -1000 ≤ r.b ∧ r.b ≤ 1000 ∧ -1000 ≤ r.c ∧ r.c ≤ 1000 ∧ -1000 ≤ r.d ∧ r.d ≤ 1000) (hl : (rs.flatMap sqL).length < 64) : ∃ cs : List (List Int), g__law_cells [c] = some (.list (cs.map kD)) ∧ (∀ k, k ∈ cs ↔ ∃ r ∈ rs, k ∈ sqL r) ∧ cs.length < 64 := by
  have := ddR_len (rs.flatMap sqL)
  obtain ⟨cs, e1, e2, e3, e4⟩ := cells_ev2 rs hc hb (by omega) (by omega)
  refine ⟨cs, e1, e2, ?_⟩
  have := nd_len e4 (m := rs.flatMap sqL) fun k hk => by
    obtain ⟨r, hr, h⟩ := (e2 k).mp hk
    exact List.mem_flatMap.mpr ⟨r, hr, h⟩
  omega
end Fx

namespace Fx
open PySem PySem.Spec L2
/-! plain: what fits -/
def opnP (R : Rm) (x y : Int) : Prop := 0 ≤ x ∧ x < R.w ∧ 0 ≤ y ∧ y < R.h ∧ ∀ q ∈ R.bl, ¬ (q.a ≤ x ∧ x < q.c ∧ q.b ≤ y ∧ y < q.d)
def inR (r : Rc) (x y : Int) : Prop := r.a ≤ x ∧ x < r.c ∧ r.b ≤ y ∧ y < r.d
def prop (r : Rc) : Prop := r.a < r.c ∧ r.b < r.d
theorem ov_iff (r s : Rc) (hr : prop r) (hs : prop s) : ov r s = true ↔ ∃ x y, inR r x y ∧ inR s x y := by
  unfold ov inR
  simp only [Bool.and_eq_true, decide_eq_true_eq]
  constructor
  · rintro ⟨h1, h2, h3, h4⟩
    obtain ⟨a, b⟩ := hr
    obtain ⟨c, d⟩ := hs
    refine ⟨if r.a < s.a then s.a else r.a, if r.b < s.b then s.b else r.b, ?_, ?_⟩ <;> (split <;> split <;> omega)
  · rintro ⟨x, y, h1, h2⟩
    omega
theorem fit_iff (R : Rm) (hR : okR R) (r : Rc) (hr : prop r) : fit R r = true ↔ ∀ x y, inR r x y → opnP R x y := by
  have pb : ∀ q ∈ R.bl, prop q := fun q hq => by have := hR.2.2.2.2.2 q hq; exact ⟨this.2.1, this.2.2.2.1⟩
  unfold fit out
  simp only [Bool.and_eq_true, Bool.not_eq_true', Bool.or_eq_false_iff, decide_eq_false_iff_not, List.any_eq_false]
  constructor
  · rintro ⟨⟨h1, h2, h3, h4⟩, h5⟩ x y hxy
    refine ⟨by unfold inR at hxy; omega, by unfold inR at hxy; omega, by unfold inR at hxy; omega, by unfold inR at hxy; omega, fun q hq hin => ?_⟩
    exact h5 q hq ((ov_iff r q hr (pb q hq)).mpr ⟨x, y, hxy, hin⟩)
  · intro h
    obtain ⟨p1, p2⟩ := hr
    have a1 := h r.a r.b ⟨by omega, by omega, by omega, by omega⟩
    have a2 := h (r.c - 1) (r.d - 1) ⟨by omega, by omega, by omega, by omega⟩
    unfold opnP at a1 a2
    refine ⟨⟨by omega, by omega, by omega, by omega⟩, fun q hq ho => ?_⟩
    obtain ⟨x, y, h1, h2⟩ := (ov_iff r q ⟨p1, p2⟩ (pb q hq)).mp ho
    exact (h x y h1).2.2.2.2 q hq h2
/-! ranges rise -/
theorem rng_pw (lo hi : Int) : (rng lo hi).Pairwise (· < ·) := by
  unfold rng
  rw [List.pairwise_map]
  refine List.Pairwise.imp (fun {a b} h => ?_) List.pairwise_lt_range
  omega
/-! the open squares -/
def opn (R : Rm) (cs : List (List Int)) : List (List Int) := (rng 0 R.w).flatMap fun x => ((rng 0 R.h).filter fun y => !decide ([x, y] ∈ cs)).map fun y => [x, y]
/-! the reach -/
theorem reach_fold : ∀ (xs : List Rc) (m : Int), m ≤ xs.foldl (fun m r => maxI (m :: absR r)) m ∧ (∀ r ∈ xs, ∀ n ∈ absR r, n ≤ xs.foldl (fun m r => maxI (m :: absR r)) m) ∧ (xs.foldl (fun m r => maxI (m :: absR r)) m = m ∨ ∃ r ∈ xs, xs.foldl (fun m r => maxI (m :: absR r)) m ∈ absR r)
  | [], m => ⟨Int.le_refl m, fun r hr => (nomatch hr), .inl rfl⟩
  | r :: xs, m => by
    rw [List.foldl_cons]
    obtain ⟨h1, h2, h3⟩ := reach_fold xs (maxI (m :: absR r))
    have q : m ≤ maxI (m :: absR r) := maxI_ge List.mem_cons_self
    refine ⟨Int.le_trans q h1, fun s hs n hn => ?_, ?_⟩
    · rcases List.mem_cons.mp hs with rfl | hs
      · exact Int.le_trans (maxI_ge (List.mem_cons_of_mem _ hn)) h1
      · exact h2 s hs n hn
    · rcases h3 with h3 | ⟨s, hs, h3⟩
      · rw [h3]
        rcases List.mem_cons.mp (maxI_mem (ns := m :: absR r) (fun z => nomatch z)) with e | e
        · exact .inl e
        · exact .inr ⟨r, List.mem_cons_self, e⟩
      · exact .inr ⟨s, List.mem_cons_of_mem _ hs, h3⟩
theorem mem_absR {n : Int} {r : Rc} (h : n ∈ absR r) : n = abI r.a ∨ n = abI r.b ∨ n = abI r.c ∨ n = abI r.d := by simpa [absR] using h
end Fx

namespace Fx
open PySem PySem.Spec L2
theorem rows_pairs : ∀ {cs : List (List Int)}, (∀ k ∈ cs, ∃ x y, k = [x, y]) → ∃ ps : List (Int × Int), cs = ps.map fun p => [p.1, p.2]
  | [], _ => ⟨[], rfl⟩
  | k :: cs, h => by
    obtain ⟨x, y, rfl⟩ := h k List.mem_cons_self
    obtain ⟨ps, rfl⟩ := rows_pairs fun l hl => h l (List.mem_cons_of_mem _ hl)
    exact ⟨(x, y) :: ps, rfl⟩
theorem sThenFrz_ev {i : Nat} {F : Fs} {s s1 : S} {ds : List D} (h : F s = some (.next, s1)) (h1 : s1.rho[i]? = some (.own (.list ds))) : sThenFrz i F s = some (.next, s1.put i (.val (.list ds))) := by
  unfold sThenFrz
  rw [h]
  dsimp only
  rw [h1]
theorem mem_pairs {ps : List (Int × Int)} {x y : Int} : [x, y] ∈ (ps.map fun p => [p.1, p.2]) ↔ (x, y) ∈ ps := by
  rw [List.mem_map]
  constructor
  · rintro ⟨p, hp, e⟩
    injection e with e1 e2
    injection e2 with e2
    rw [← e1, ← e2]
    exact hp
  · intro h
    exact ⟨(x, y), h, rfl⟩
theorem sq_quart {r : Rc} {u v : Int} : inR (quart r) u v ↔ inR r v (-u - 1) := by
  unfold inR quart
  dsimp only
  omega
theorem body_area {b : List Rc} (hb : smallB b) : (b.flatMap sqL).length < 64 := by
  have q := flat_len (f := sqL) (m := 16) (xs := b) fun r hr => by
    have := hb.2.2 r hr
    have h1 : (rng r.b r.d).length ≤ 4 := by rw [rng_len]; omega
    have h2 : (rng r.a r.c).length ≤ 4 := by rw [rng_len]; omega
    have q := flat_len (f := fun x => (rng r.b r.d).map fun y => [x, y]) (m := 4) (xs := rng r.a r.c) fun x _ => by rw [List.length_map]; exact h1
    unfold sqL
    omega
  have := hb.2.1
  omega
theorem shape_ev2 (b : List Rc) (hbd : ∀ r ∈ b, -1000 ≤ r.a ∧ r.a ≤ 1000 ∧ -1000 ≤ r.b ∧ r.b ≤ 1000 ∧ -1000 ≤ r.c ∧ r.c ≤ 1000 ∧ -1000 ≤ r.d ∧ r.d ≤ 1000) (h4 : (b.flatMap sqL).length ≤ 4000) (h76 : (dd (b.flatMap sqL)).length ≤ 300) (q : Int) (hq : 0 ≤ q ∧ q ≤ 3) : ∃ ps : List (Int × Int), g__law_shape [rcsD b, .int q] = some (.list (ps.map fun p => kD [p.1, p.2])) ∧ (∀ x y, (x, y) ∈ ps ↔ ∃ r ∈ turnB b q, inR r x y) ∧ ps.length ≤ 100000 := by
  obtain ⟨cs, e1, e2, e3, _⟩ := cells_ev2 (c := rcsD b) b rfl hbd h4 h76
  obtain ⟨ps0, rfl⟩ := rows_pairs (cs := cs) fun k hk => by
    obtain ⟨r, _, hk⟩ := (e2 k).mp hk
    obtain ⟨x, y, rfl, _⟩ := mem_sqL.mp hk
    exact ⟨x, y, rfl⟩
  have m0 : ∀ x y, (x, y) ∈ ps0 ↔ ∃ r ∈ b, inR r x y := fun x y => by
    rw [← mem_pairs, e2]
    constructor
    · rintro ⟨r, hr, hk⟩
      obtain ⟨x', y', e, h⟩ := mem_sqL.mp hk
      cases e
      exact ⟨r, hr, h⟩
    · rintro ⟨r, hr, h⟩
      exact ⟨r, hr, mem_sqL.mpr ⟨x, y, rfl, h⟩⟩
  rw [List.length_map] at e3
  have key : ∃ s', (sFor (iterA range1D (aCons (eVar 1) (aNil))) (gNm 3)
      (sThenFrz 2 (sSetF 2 (eComp (iterS (eVar 2)) (gTp 2 (gsCons (gNm 4) (gsCons (gNm 5) (gsNil)))) (eC (.bool true)) [4, 5] (pEmit (eTup (aCons (eBin subD (eBin subD (eC (.int 0)) (eVar 5)) (eC (.int 1))) (aCons (eVar 4) (aNil))))))))) ⟨[.val (rcsD b), .val (.int q), .val (.list (ps0.map fun p => kD [p.1, p.2])), .no, .no, .no], none⟩ = some (.next, s') ∧
      ∃ (ps : List (Int × Int)) (c3 : C), s' = ⟨[.val (rcsD b), .val (.int q), .val (.list (ps.map fun p => kD [p.1, p.2])), c3, .no, .no], none⟩ ∧ ps.length = ps0.length ∧ ∀ x y, (x, y) ∈ ps ↔ ∃ r ∈ (rng 0 q).foldl (fun b _ => b.map quart) b, inR r x y := by
    have h0 : iterA range1D (aCons (eVar 1) aNil) ⟨[.val (rcsD b), .val (.int q), .val (.list (ps0.map fun p => kD [p.1, p.2])), .no, .no, .no], none⟩ = some ((rng 0 q).map PyData.int, ⟨[.val (rcsD b), .val (.int q), .val (.list (ps0.map fun p => kD [p.1, p.2])), .no, .no, .no], none⟩) := range1_ev rfl (by omega)
    refine for_pre (rng 0 q) PyData.int (fun pre s' => ∃ (ps : List (Int × Int)) (c3 : C), s' = ⟨[.val (rcsD b), .val (.int q), .val (.list (ps.map fun p => kD [p.1, p.2])), c3, .no, .no], none⟩ ∧ ps.length = ps0.length ∧ ∀ x y, (x, y) ∈ ps ↔ ∃ r ∈ pre.foldl (fun b _ => b.map quart) b, inR r x y) h0 ⟨ps0, .no, rfl, rfl, m0⟩ ?_
    rintro pre t suf _ _ ⟨ps, c3, rfl, hl, hm⟩
    have qq := map_ev (fi := iterS (eVar 2)) (g := gTp 2 (gsCons (gNm 4) (gsCons (gNm 5) (gsNil)))) (f := eTup (aCons (eBin subD (eBin subD (eC (.int 0)) (eVar 5)) (eC (.int 1))) (aCons (eVar 4) (aNil)))) (vs := [4, 5]) (s := ⟨[.val (rcsD b), .val (.int q), .val (.list (ps.map fun p => kD [p.1, p.2])), .val (.int t), .no, .no], none⟩) ps (fun p => kD [p.1, p.2]) (fun p => kD [0 - p.2 - 1, p.1]) rfl rfl rfl (fun p _ => ⟨_, rfl, rfl, rfl⟩) (by omega)
    refine ⟨_, _, rfl, .inl (sThenFrz_ev (sSetF_ev qq (by simp)) rfl), ps.map fun p => (0 - p.2 - 1, p.1), .val (.int t), ?_, by rw [List.length_map]; exact hl, fun x y => ?_⟩
    · rw [List.map_map]
      rfl
    · rw [List.foldl_append, List.foldl_cons, List.foldl_nil, List.mem_map]
      constructor
      · rintro ⟨⟨u, v⟩, hp, e⟩
        injection e with e1 e2
        dsimp only at e1 e2
        obtain ⟨r, hr, hin⟩ := (hm u v).mp hp
        refine ⟨quart r, List.mem_map.mpr ⟨r, hr, rfl⟩, sq_quart.mpr ?_⟩
        rw [← e1, ← e2]
        unfold inR at hin ⊢
        omega
      · rintro ⟨r, hr, hin⟩
        obtain ⟨r0, hr0, rfl⟩ := List.mem_map.mp hr
        have := sq_quart.mp hin
        refine ⟨(y, -x - 1), (hm y (-x - 1)).mpr ⟨r0, hr0, this⟩, ?_⟩
        show (0 - (-x - 1) - 1, y) = (x, y)
        rw [show 0 - (-x - 1) - 1 = x by omega]
  obtain ⟨s', k1, ps, c3, rfl, hl, hm⟩ := key
  have ks : (ps.map fun p => kD [p.1, p.2]) = (ps.map fun p => [p.1, p.2]).map kD := by rw [List.map_map]; rfl
  have so := sortedD_ev (ks := ps.map fun p => [p.1, p.2]) fun k hk => by
    obtain ⟨p, _, rfl⟩ := List.mem_map.mp hk
    exact fun z => nomatch z
  obtain ⟨ps', e'⟩ := rows_pairs (cs := (ps.map fun p => [p.1, p.2]).mergeSort leR) fun k hk => by
    obtain ⟨p, _, rfl⟩ := List.mem_map.mp (List.mem_mergeSort.mp hk)
    exact ⟨_, _, rfl⟩
  refine ⟨ps', ?_, fun x y => ?_, by have := congrArg List.length e'; rw [List.length_mergeSort, List.length_map, List.length_map] at this; omega⟩
  · refine fnV_ev (rho := [.val (rcsD b), .val (.int q), .val (.list (ps.map fun p => kD [p.1, p.2])), c3, .no, .no]) ((sSeq_ev (s1 := ⟨[.val (rcsD b), .val (.int q), .val (.list (ps0.map fun p => kD [p.1, p.2])), .no, .no, .no], none⟩) ?_ (sSeq_ev k1 (sRet_ev (eCall_ev (xs := [.list ((ps.map fun p => [p.1, p.2]).map kD)]) ?_ ?_)))))
    · have e1' : g__law_cells [rcsD b] = some (.list (ps0.map fun p => kD [p.1, p.2])) := by rw [e1, List.map_map]; rfl
      exact sSet_ev (s1 := st0 6 [rcsD b, .int q]) (eFn_ev (xs := [rcsD b]) rfl rfl e1')
    · rw [← ks]
      rfl
    · rw [so, e', List.map_map]
      rfl
  · rw [← mem_pairs, ← e', List.mem_mergeSort, mem_pairs, hm]
    rfl
theorem shape_ev (b : List Rc) (hb : smallB b) (q : Int) (hq : 0 ≤ q ∧ q ≤ 3) : ∃ ps : List (Int × Int), g__law_shape [rcsD b, .int q] = some (.list (ps.map fun p => kD [p.1, p.2])) ∧ (∀ x y, (x, y) ∈ ps ↔ ∃ r ∈ turnB b q, inR r x y) ∧ ps.length ≤ 100000 := by
  have a := body_area hb
  have := ddR_len (b.flatMap sqL)
  exact shape_ev2 b (fun r hr => by have := hb.2.2 r hr; omega) (by omega) (by omega) q hq
/-! _law_fits -/
end Fx

namespace Fx
open PySem PySem.Spec L2
section
variable (R : Rm) (b : List Rc) (os : List (List Int)) (shp fr : D) (c3 : C) (F : Int → Int → Int → Bool) (T : Int → Int → Bool)
/-- the state in _law_world's loops -/
def Ws (fk tk : List (List Int)) (c9 c10 c11 : C) : S := ⟨[.val (rmD R), .val (rcsD b), .val (.dict (entK os)), c3, .val shp, .val fr, .val (.int (frm b)), .own (.dict (entK fk)), .own (.dict (entK tk)), c9, c10, c11], none⟩
def rowQ (x y : Int) (qs : List Int) : List (List Int) := (qs.filter fun q => F x y q).map fun q => [x, y, q]
def rowY (x : Int) (ys : List Int) : List (List Int) := ys.flatMap fun y => rowQ F x y (rng 0 4)
def turY (x : Int) (ys : List Int) : List (List Int) := (ys.filter fun y => T x y).map fun y => [x, y]
def rowX (ys xs : List Int) : List (List Int) := xs.flatMap fun x => rowY F x ys
def turX (ys xs : List Int) : List (List Int) := xs.flatMap fun x => turY T x ys
theorem mem_rowQ {x y : Int} {qs : List Int} {k : List Int} : k ∈ rowQ F x y qs ↔ ∃ q ∈ qs, F x y q = true ∧ k = [x, y, q] := by
  unfold rowQ
  rw [List.mem_map]
  constructor
  · rintro ⟨q, hq, rfl⟩
    obtain ⟨h1, h2⟩ := List.mem_filter.mp hq
    exact ⟨q, h1, h2, rfl⟩
  · rintro ⟨q, h1, h2, rfl⟩
    exact ⟨q, List.mem_filter.mpr ⟨h1, h2⟩, rfl⟩
theorem mem_rowY {x : Int} {ys : List Int} {k : List Int} : k ∈ rowY F x ys ↔ ∃ y ∈ ys, ∃ q ∈ rng 0 4, F x y q = true ∧ k = [x, y, q] := by
  unfold rowY
  rw [List.mem_flatMap]
  simp only [mem_rowQ]
theorem mem_rowX {ys xs : List Int} {k : List Int} : k ∈ rowX F ys xs ↔ ∃ x ∈ xs, ∃ y ∈ ys, ∃ q ∈ rng 0 4, F x y q = true ∧ k = [x, y, q] := by
  unfold rowX
  rw [List.mem_flatMap]
  simp only [mem_rowY]
theorem mem_turY {x : Int} {ys : List Int} {k : List Int} : k ∈ turY T x ys ↔ ∃ y ∈ ys, T x y = true ∧ k = [x, y] := by
  unfold turY
  rw [List.mem_map]
  constructor
  · rintro ⟨q, hq, rfl⟩
    obtain ⟨h1, h2⟩ := List.mem_filter.mp hq
    exact ⟨q, h1, h2, rfl⟩
  · rintro ⟨q, h1, h2, rfl⟩
    exact ⟨q, List.mem_filter.mpr ⟨h1, h2⟩, rfl⟩
theorem mem_turX {ys xs : List Int} {k : List Int} : k ∈ turX T ys xs ↔ ∃ x ∈ xs, ∃ y ∈ ys, T x y = true ∧ k = [x, y] := by
  unfold turX
  rw [List.mem_flatMap]
  simp only [mem_turY]
theorem rowQ_len (x y : Int) (qs : List Int) : (rowQ F x y qs).length ≤ qs.length := by
  unfold rowQ
  rw [List.length_map]
  exact List.length_filter_le _ _
theorem rowY_len (x : Int) (ys : List Int) : (rowY F x ys).length ≤ ys.length * 4 := flat_len fun y _ => rowQ_len F x y (rng 0 4)
theorem turY_len (x : Int) (ys : List Int) : (turY T x ys).length ≤ ys.length := by
  unfold turY
  rw [List.length_map]
  exact List.length_filter_le _ _
theorem rowX_len (ys xs : List Int) (h : ys.length ≤ 77) : (rowX F ys xs).length ≤ xs.length * 308 := flat_len fun x _ => Nat.le_trans (rowY_len F x ys) (by omega)
theorem turX_len (ys xs : List Int) (h : ys.length ≤ 77) : (turX T ys xs).length ≤ xs.length * 77 := flat_len fun x _ => Nat.le_trans (turY_len T x ys) h
theorem split_new {lo hi : Int} {pre suf : List Int} {x : Int} (h : rng lo hi = pre ++ x :: suf) : x ∉ pre ∧ pre.length < (rng lo hi).length := by
  have p := rng_pw lo hi
  rw [h, List.pairwise_append] at p
  refine ⟨fun z => ?_, by rw [h, List.length_append, List.length_cons]; omega⟩
  have := p.2.2 x z x List.mem_cons_self
  omega
end
end Fx

namespace Fx
open PySem PySem.Spec L2
theorem turn_prop {b : List Rc} (hb : okB b) (q : Int) : ∀ r ∈ turnB b q, prop r := by
  unfold turnB
  generalize rng 0 q = xs
  have h0 : ∀ r ∈ b, prop r := fun r hr => by have := hb.2.2 r hr; exact ⟨this.2.1, this.2.2.2.2.1⟩
  clear hb
  induction xs generalizing b with
  | nil => exact h0
  | cons x xs ih =>
    rw [List.foldl_cons]
    refine ih fun r hr => ?_
    obtain ⟨s, hs, rfl⟩ := List.mem_map.mp hr
    have := h0 s hs
    unfold prop quart at *
    dsimp only
    omega
theorem frm_pos {b : List Rc} (hb : okB b) : 1 ≤ frm b := by
  obtain ⟨h1, r, hr, _⟩ := frm_spec hb
  have a := h1 r hr
  have c := hb.2.2 r hr
  unfold abI at a
  have f0 := (frm_bd hb).1
  by_cases z : frm b = 0
  · rw [z] at a
    obtain ⟨a1, _, a3, _⟩ := a
    split at a1 <;> split at a3 <;> omega
  · omega
theorem std_iff (R : Rm) (hR : okR R) (b : List Rc) (hb : okB b) (x y q : Int) : std R b ⟨x, y, q⟩ = true ↔ ∀ u v, (∃ r ∈ turnB b q, inR r u v) → opnP R (u + x) (v + y) := by
  unfold std plc
  rw [List.all_eq_true]
  have sp : ∀ r, prop r → prop (shift x y r) := fun r h => by unfold prop shift at *; dsimp only; omega
  constructor
  · rintro h u v ⟨r, hr, hin⟩
    have := (fit_iff R hR _ (sp r (turn_prop hb q r hr))).mp (h _ (List.mem_map.mpr ⟨r, hr, rfl⟩))
    exact this (u + x) (v + y) (by unfold inR shift at *; dsimp only at *; omega)
  · intro h s hs
    obtain ⟨r, hr, rfl⟩ := List.mem_map.mp hs
    refine (fit_iff R hR _ (sp r (turn_prop hb q r hr))).mpr fun u v hin => ?_
    have := h (u - x) (v - y) ⟨r, hr, by unfold inR shift at *; dsimp only at *; omega⟩
    rw [Int.sub_add_cancel, Int.sub_add_cancel] at this
    exact this
theorem frame_iff (R : Rm) (hR : okR R) (f : Int) (hf : 1 ≤ f) (x y : Int) : fit R (frR x y f) = true ↔ ∀ u v, inR ⟨0 - f, 0 - f, f, f⟩ u v → opnP R (u + x) (v + y) := by
  have hp : prop (frR x y f) := by unfold prop frR; dsimp only; omega
  rw [fit_iff R hR _ hp]
  constructor
  · intro h u v hin
    exact h (u + x) (v + y) (by unfold inR frR at *; dsimp only at *; omega)
  · intro h u v hin
    have := h (u - x) (v - y) (by unfold inR frR at *; dsimp only at *; omega)
    rw [Int.sub_add_cancel, Int.sub_add_cancel] at this
    exact this
theorem room_area {R : Rm} (h : smallR R) : (R.bl.flatMap sqL).length < 64 := by
  have q := flat_len (f := sqL) (m := 9) (xs := R.bl) fun r hr => by
    have := h.2.2.2.2.2 r hr
    have h1 : (rng r.b r.d).length ≤ 3 := by rw [rng_len]; omega
    have h2 : (rng r.a r.c).length ≤ 3 := by rw [rng_len]; omega
    have q := flat_len (f := fun x => (rng r.b r.d).map fun y => [x, y]) (m := 3) (xs := rng r.a r.c) fun x _ => by rw [List.length_map]; exact h1
    unfold sqL
    omega
  have := h.2.2.2.2.1
  omega
end Fx

namespace Fx
open PySem PySem.Spec L2
/-! plain: how far -/
theorem abI_le {n M : Int} : abI n ≤ M ↔ -M ≤ n ∧ n ≤ M := by unfold abI; split <;> omega
theorem turn_bd {b : List Rc} {M : Int} (h0 : ∀ r ∈ b, -M ≤ r.a ∧ r.a ≤ M ∧ -M ≤ r.b ∧ r.b ≤ M ∧ -M ≤ r.c ∧ r.c ≤ M ∧ -M ≤ r.d ∧ r.d ≤ M) (q : Int) : ∀ r ∈ turnB b q, -M ≤ r.a ∧ r.a ≤ M ∧ -M ≤ r.b ∧ r.b ≤ M ∧ -M ≤ r.c ∧ r.c ≤ M ∧ -M ≤ r.d ∧ r.d ≤ M := by
  unfold turnB
  generalize rng 0 q = xs
  induction xs generalizing b with
  | nil => exact h0
  | cons x xs ih =>
    rw [List.foldl_cons]
    refine ih fun r hr => ?_
    obtain ⟨s, hs, rfl⟩ := List.mem_map.mp hr
    have := h0 s hs
    unfold quart
    dsimp only
    omega
theorem turn_ne {b : List Rc} (h : b ≠ []) (q : Int) : turnB b q ≠ [] := by
  unfold turnB
  generalize rng 0 q = xs
  induction xs generalizing b with
  | nil => exact h
  | cons x xs ih =>
    rw [List.foldl_cons]
    exact ih (by simpa using h)
theorem fit_bd {R : Rm} {r : Rc} (h : fit R r = true) : 0 ≤ r.a ∧ 0 ≤ r.b ∧ r.c ≤ R.w ∧ r.d ≤ R.h := by
  unfold fit out at h
  simp only [Bool.and_eq_true, Bool.not_eq_true', Bool.or_eq_false_iff, decide_eq_false_iff_not] at h
  omega
theorem std_range {R : Rm} {b : List Rc} (hb : okB b) {x y q : Int} (h : std R b ⟨x, y, q⟩ = true) : -frm b ≤ x ∧ x ≤ R.w + frm b ∧ -frm b ≤ y ∧ y ≤ R.h + frm b := by
  have hne : b ≠ [] := fun z => by have := hb.1; rw [z] at this; simp at this
  obtain ⟨r, hr⟩ := List.exists_mem_of_ne_nil _ (turn_ne hne q)
  have bd := turn_bd (M := frm b) (fun r hr => by
    have := (frm_spec hb).1 r hr
    simp only [abI_le] at this
    omega) q r hr
  unfold std at h
  rw [List.all_eq_true] at h
  have f := fit_bd (h (shift x y r) (List.mem_map.mpr ⟨r, hr, rfl⟩))
  unfold shift at f
  dsimp only at f
  omega
theorem least {p : Nat → Bool} : ∀ N : Nat, p N = false → ∃ n, n ≤ N ∧ p n = false ∧ ∀ k, k < n → p k = true
  | 0, h => ⟨0, Nat.le_refl _, h, fun k hk => absurd hk (Nat.not_lt_zero k)⟩
  | N + 1, h => by
    by_cases z : ∃ m, m ≤ N ∧ p m = false
    · obtain ⟨m, hm, hp⟩ := z
      obtain ⟨n, h1, h2, h3⟩ := least m hp
      exact ⟨n, by omega, h2, h3⟩
    · refine ⟨N + 1, Nat.le_refl _, h, fun k hk => ?_⟩
      cases q : p k with
      | true => rfl
      | false => exact absurd ⟨k, by omega, q⟩ z
/-- a slide is free just where each step is -/
theorem sld_iff (R : Rm) (hR : okR R) (b : List Rc) (hb : okB b) (x y q dx dy : Int) (hd : (dx, dy) ∈ dirs) (m : Nat) : sld R b ⟨x, y, q⟩ (dx * m) (dy * m) = true ↔ ∀ j : Nat, j ≤ m → std R b ⟨x + dx * j, y + dy * j, q⟩ = true := by
  have eq1 : sld R b ⟨x, y, q⟩ (dx * m) (dy * m) = true ↔ ∀ r ∈ turnB b q, ∀ u v, inR (ext (dx * m) (dy * m) (shift x y r)) u v → opnP R u v := by
    unfold sld plc
    rw [List.all_eq_true]
    have pe : ∀ r ∈ turnB b q, prop (ext (dx * m) (dy * m) (shift x y r)) := fun r hr => by
      have := turn_prop hb q r hr
      unfold prop ext shift mn mx at *
      dsimp only
      constructor <;> (split <;> split <;> omega)
    constructor
    · intro h r hr u v hin
      exact (fit_iff R hR _ (pe r hr)).mp (h _ (List.mem_map.mpr ⟨r, hr, rfl⟩)) u v hin
    · intro h s hs
      obtain ⟨r, hr, rfl⟩ := List.mem_map.mp hs
      exact (fit_iff R hR _ (pe r hr)).mpr fun u v hin => h r hr u v hin
  have eq2 : ∀ X Y : Int, std R b ⟨X, Y, q⟩ = true ↔ ∀ r ∈ turnB b q, ∀ u v, inR (shift X Y r) u v → opnP R u v := fun X Y => by
    rw [std_iff R hR b hb]
    constructor
    · intro h r hr u v hin
      have := h (u - X) (v - Y) ⟨r, hr, by unfold inR shift at *; dsimp only at *; omega⟩
      rw [Int.sub_add_cancel, Int.sub_add_cancel] at this
      exact this
    · rintro h u v ⟨r, hr, hin⟩
      exact h r hr (u + X) (v + Y) (by unfold inR shift at *; dsimp only at *; omega)
  rw [eq1]
  simp only [eq2]
  have hd' : (dx = 1 ∧ dy = 0) ∨ (dx = -1 ∧ dy = 0) ∨ (dx = 0 ∧ dy = 1) ∨ (dx = 0 ∧ dy = -1) := by simpa [dirs] using hd
  constructor
  · intro h j hj r hr u v hin
    refine h r hr u v ?_
    unfold inR ext shift mn mx at *
    dsimp only at *
    rcases hd' with ⟨rfl, rfl⟩ | ⟨rfl, rfl⟩ | ⟨rfl, rfl⟩ | ⟨rfl, rfl⟩ <;> (refine ⟨?_, ?_, ?_, ?_⟩ <;> (try split) <;> omega)
  · intro h r hr u v hin
    have pr := turn_prop hb q r hr
    unfold prop at pr
    rcases hd' with ⟨rfl, rfl⟩ | ⟨rfl, rfl⟩ | ⟨rfl, rfl⟩ | ⟨rfl, rfl⟩
    · by_cases z : u < r.c + x
      · exact h 0 (by omega) r hr u v (by unfold inR ext shift mn mx at *; dsimp only at *; (repeat' split at hin) <;> omega)
      · exact h (u - (r.c + x) + 1).toNat (by unfold inR ext shift mn mx at hin; dsimp only at hin; (repeat' split at hin) <;> omega) r hr u v (by unfold inR ext shift mn mx at *; dsimp only at *; (repeat' split at hin) <;> omega)
    · by_cases z : r.a + x ≤ u
      · exact h 0 (by omega) r hr u v (by unfold inR ext shift mn mx at *; dsimp only at *; (repeat' split at hin) <;> omega)
      · exact h (r.a + x - u).toNat (by unfold inR ext shift mn mx at hin; dsimp only at hin; (repeat' split at hin) <;> omega) r hr u v (by unfold inR ext shift mn mx at *; dsimp only at *; (repeat' split at hin) <;> omega)
    · by_cases z : v < r.d + y
      · exact h 0 (by omega) r hr u v (by unfold inR ext shift mn mx at *; dsimp only at *; (repeat' split at hin) <;> omega)
      · exact h (v - (r.d + y) + 1).toNat (by unfold inR ext shift mn mx at hin; dsimp only at hin; (repeat' split at hin) <;> omega) r hr u v (by unfold inR ext shift mn mx at *; dsimp only at *; (repeat' split at hin) <;> omega)
    · by_cases z : r.b + y ≤ v
      · exact h 0 (by omega) r hr u v (by unfold inR ext shift mn mx at *; dsimp only at *; (repeat' split at hin) <;> omega)
      · exact h (r.b + y - v).toNat (by unfold inR ext shift mn mx at hin; dsimp only at hin; (repeat' split at hin) <;> omega) r hr u v (by unfold inR ext shift mn mx at *; dsimp only at *; (repeat' split at hin) <;> omega)
/-! the tables -/
section
variable {R : Rm} {b : List Rc} {F : Int → Int → Int → Bool} {T : Int → Int → Bool}
theorem free_rows (hF : ∀ x y q, 0 ≤ q ∧ q ≤ 3 → F x y q = std R b ⟨x, y, q⟩) : rowX F (rng (0 - frm b) (R.h + frm b + 1)) (rng (0 - frm b) (R.w + frm b + 1)) = (allS R b).map fun s => [s.x, s.y, s.t] := by
  unfold rowX rowY allS
  rw [Int.zero_sub, List.map_flatMap]
  congr 1
  funext x
  rw [List.map_flatMap]
  congr 1
  funext y
  unfold rowQ lineS
  rw [List.map_map]
  have e : (rng 0 4).filter (fun q => F x y q) = (rng 0 4).filter fun t => std R b ⟨x, y, t⟩ := List.filter_congr fun q hq => hF x y q (by rw [mem_rng] at hq; omega)
  rw [e]
  rfl
theorem free_mem (hb : okB b) (hF : ∀ x y q, 0 ≤ q ∧ q ≤ 3 → F x y q = std R b ⟨x, y, q⟩) {x y q : Int} (hq : 0 ≤ q ∧ q ≤ 3) : decide ([x, y, q] ∈ rowX F (rng (0 - frm b) (R.h + frm b + 1)) (rng (0 - frm b) (R.w + frm b + 1))) = std R b ⟨x, y, q⟩ := by
  rw [Bool.eq_iff_iff, decide_eq_true_eq, mem_rowX]
  constructor
  · rintro ⟨x', _, y', _, q', hq', hf, e⟩
    injection e with e1 e
    injection e with e2 e
    injection e with e3
    subst e1 e2 e3
    rw [← hF _ _ _ hq]
    exact hf
  · intro h
    have r := std_range hb h
    exact ⟨x, mem_rng.mpr (by omega), y, mem_rng.mpr (by omega), q, mem_rng.mpr (by omega), by rw [hF _ _ _ hq]; exact h, rfl⟩
theorem turn_mem (hb : okB b) (hT : ∀ x y, T x y = fit R (frR x y (frm b))) {x y : Int} : decide ([x, y] ∈ turX T (rng (0 - frm b) (R.h + frm b + 1)) (rng (0 - frm b) (R.w + frm b + 1))) = fit R (frR x y (frm b)) := by
  rw [Bool.eq_iff_iff, decide_eq_true_eq, mem_turX]
  constructor
  · rintro ⟨x', _, y', _, hf, e⟩
    injection e with e1 e
    injection e with e2
    subst e1 e2
    rw [← hT]
    exact hf
  · intro h
    have r := fit_bd h
    unfold frR at r
    dsimp only at r
    have f0 := (frm_bd hb).1
    exact ⟨x, mem_rng.mpr (by omega), y, mem_rng.mpr (by omega), by rw [hT]; exact h, rfl⟩
theorem leR_cons {x y : Int} {k l : List Int} : leR (x :: k) (y :: l) = true ↔ x < y ∨ (x = y ∧ leR k l = true) := by
  show (if x = y then leR k l else decide (x < y)) = true ↔ _
  by_cases h : x = y
  · simp [h]
  · simp [h]
theorem rows_sorted {ys xs : List Int} (hx : xs.Pairwise (· < ·)) (hy : ys.Pairwise (· < ·)) : (rowX F ys xs).Pairwise fun k l => leR k l = true := by
  unfold rowX
  rw [List.pairwise_flatMap]
  refine ⟨fun x _ => ?_, List.Pairwise.imp (fun {a c} h k hk l hl => ?_) hx⟩
  · unfold rowY
    rw [List.pairwise_flatMap]
    refine ⟨fun y _ => ?_, List.Pairwise.imp (fun {a c} h k hk l hl => ?_) hy⟩
    · unfold rowQ
      rw [List.pairwise_map]
      refine List.Pairwise.imp (fun {a c} h => ?_) (List.Pairwise.filter _ (rng_pw 0 4))
      rw [leR_cons]
      refine .inr ⟨rfl, ?_⟩
      rw [leR_cons]
      refine .inr ⟨rfl, ?_⟩
      rw [leR_cons]
      exact .inl h
    · obtain ⟨_, _, _, rfl⟩ := (mem_rowQ F).mp hk
      obtain ⟨_, _, _, rfl⟩ := (mem_rowQ F).mp hl
      rw [leR_cons]
      refine .inr ⟨rfl, ?_⟩
      rw [leR_cons]
      exact .inl h
  · obtain ⟨_, _, _, _, _, rfl⟩ := (mem_rowY F).mp hk
    obtain ⟨_, _, _, _, _, rfl⟩ := (mem_rowY F).mp hl
    rw [leR_cons]
    exact .inl h
end
theorem law_is_ev (p : Bool) : g__law_is [.bool p, .bool p] = some (.bool true) := by cases p <;> rfl
theorem eFnK_ev {n m : Nat} {g : List D → Option D} {fa fk : Fa} {s s1 s2 : S} {xs ys : List D} {d : D} (h1 : fa s = some (xs, s1)) (h2 : fk s1 = some (ys, s2)) (hn : xs.length = n) (hm : ys.length = m) (h3 : g (xs ++ ys) = some d) : eFnK n m g fa fk s = some (d, s2) := by
  unfold eFnK
  rw [h1, Option.bind_some]
  dsimp only
  rw [h2, Option.bind_some]
  dsimp only
  rw [if_pos ⟨hn, hm⟩, h3]
  rfl
end Fx

namespace Fx
open PySem PySem.Spec L2
/-! ### lines -/
theorem pforg_ev {α : Type} {fi : Fa} {g : Fg} {ft : Fe} {vs : List Nat} {s : S} (ys : List α) (enc : α → D) (p : α → Bool) (L : α → List D) {inner : Fp} {acc : List D} (h0 : allNo s vs = true) (h1 : fi s = some (ys.map enc, s)) (hs : ∀ y ∈ ys, ∃ sy, g (enc y) s = some sy ∧ ft sy = some (.bool (p y), sy) ∧ (p y = true → ∀ acc, acc.length + (L y).length ≤ 100000 → inner acc sy = some (acc ++ L y, sy)) ∧ sy.wipe vs = s) (hl : acc.length + ((ys.filter p).flatMap L).length ≤ 100000) :
    pFor fi g ft vs inner acc s = some (acc ++ (ys.filter p).flatMap L, s) := by
  unfold pFor
  rw [if_pos h0, h1, Option.bind_some]
  exact clg_ev enc p L hs hl
theorem filter_true {α : Type} (xs : List α) : xs.filter (fun _ => true) = xs := List.filter_eq_self.mpr fun _ _ => rfl
theorem sortI_ev (ns : List Int) (h : ns.length ≤ 4000) : sortSetD (.list (ns.map PyData.int)) = some (.list ((sortI ns).map PyData.int)) := by
  unfold sortSetD
  dsimp only
  rw [rowsI_map]
  exact if_pos h
theorem mem_sortI {n : Int} {ns : List Int} : n ∈ sortI ns ↔ n ∈ ns := by
  unfold sortI
  rw [(isort_perm _ _).mem_iff, mem_dd]
theorem dd_len : ∀ ns : List Int, (dd ns).length ≤ ns.length
  | [] => Nat.le_refl _
  | a :: r => by
    unfold dd
    have := dd_len r
    split
    · rw [List.length_cons]; omega
    · rw [List.length_cons, List.length_cons]; omega
theorem sortI_len (ns : List Int) : (sortI ns).length ≤ ns.length := by
  unfold sortI
  rw [(isort_perm _ _).length_eq]
  exact dd_len ns
theorem pw_lt : ∀ {xs : List Int}, xs.Pairwise (fun a b => leI a b = true) → xs.Nodup → xs.Pairwise (· < ·)
  | [], _, _ => .nil
  | a :: r, h, n => by
    obtain ⟨h1, h2⟩ := List.pairwise_cons.mp h
    obtain ⟨n1, n2⟩ := List.nodup_cons.mp n
    refine List.pairwise_cons.mpr ⟨fun b hb => ?_, pw_lt h2 n2⟩
    have q := h1 b hb
    unfold leI at q
    rw [decide_eq_true_eq] at q
    have : a ≠ b := fun e => n1 (e ▸ hb)
    omega
theorem sortI_pw (ns : List Int) : (sortI ns).Pairwise (· < ·) := by
  refine pw_lt (isort_pw leI_tr leI_tot _) ?_
  exact (isort_perm leI (dd ns)).nodup_iff.mpr (nodup_dd ns)
theorem sortI_congr {ns ms : List Int} (h : ∀ n, n ∈ ns ↔ n ∈ ms) : sortI ns = sortI ms := by
  refine List.Perm.eq_of_pairwise (le := fun a b => leI a b = true) (fun a b _ _ h1 h2 => leI_anti a b h1 h2) (isort_pw leI_tr leI_tot _) (isort_pw leI_tr leI_tot _) ?_
  refine (isort_perm _ _).trans (((List.perm_ext_iff_of_nodup (nodup_dd _) (nodup_dd _)).mpr fun n => ?_).trans (isort_perm _ _).symm)
  rw [mem_dd, mem_dd]
  exact h n
def edX (R : Rm) : List Int := [0, R.w] ++ R.bl.flatMap fun r => [r.a, r.c]
def edY (R : Rm) : List Int := [0, R.h] ++ R.bl.flatMap fun r => [r.b, r.d]
theorem two_len {α : Type} (f g : α → Int) (l : List α) : (l.flatMap fun r => [f r, g r]).length = 2 * l.length := by
  induction l with
  | nil => rfl
  | cons a l ih => rw [List.flatMap_cons, List.length_append, ih, List.length_cons]; simp; omega
theorem edX_len {R : Rm} (hR : okR R) : (edX R).length ≤ 34 := by
  unfold edX
  rw [List.length_append, two_len]
  have := hR.2.2.2.2.1
  simp
  omega
theorem edY_len {R : Rm} (hR : okR R) : (edY R).length ≤ 34 := by
  unfold edY
  rw [List.length_append, two_len]
  have := hR.2.2.2.2.1
  simp
  omega
section
variable (c0 c1 c2 c3 c4 : C)
/-- [one for block in blocks for one in (block[i], block[j])] -/
theorem edge_comp (bl : List Rc) (hl : bl.length ≤ 16) (i j : Int) (fa fb : Rc → Int) (h1 : ∀ r, ixD (rcD r) (.int i) = some (.int (fa r))) (h2 : ∀ r, ixD (rcD r) (.int j) = some (.int (fb r))) :
    eComp (iterS (eVar 5)) (gNm 6) (eC (.bool true)) [6, 7] (pFor (iterS (eTup (aCons (eBin ixD (eVar 6) (eC (.int i))) (aCons (eBin ixD (eVar 6) (eC (.int j))) (aNil))))) (gNm 7) (eC (.bool true)) [7] (pEmit (eVar 7))) ⟨[c0, c1, c2, c3, c4, .val (rcsD bl), .no, .no], none⟩ = some (.list ((bl.flatMap fun r => [fa r, fb r]).map PyData.int), ⟨[c0, c1, c2, c3, c4, .val (rcsD bl), .no, .no], none⟩) := by
  have q := compg_ev (fi := iterS (eVar 5)) (g := gNm 6) (ft := eC (.bool true)) (vs := [6, 7]) (inner := pFor (iterS (eTup (aCons (eBin ixD (eVar 6) (eC (.int i))) (aCons (eBin ixD (eVar 6) (eC (.int j))) (aNil))))) (gNm 7) (eC (.bool true)) [7] (pEmit (eVar 7))) (s := ⟨[c0, c1, c2, c3, c4, .val (rcsD bl), .no, .no], none⟩) (s1 := ⟨[c0, c1, c2, c3, c4, .val (rcsD bl), .no, .no], none⟩) bl rcD (fun _ => true) (fun r => [.int (fa r), .int (fb r)]) rfl rfl rfl (fun r hr => ⟨_, rfl, rfl, fun _ acc ha => ?_, rfl⟩) ?_
  · rw [q, filter_true, List.map_flatMap]
    rfl
  · have it : (iterS (eTup (aCons (eBin ixD (eVar 6) (eC (.int i))) (aCons (eBin ixD (eVar 6) (eC (.int j))) (aNil))))) ⟨[c0, c1, c2, c3, c4, .val (rcsD bl), .val (rcD r), .no], none⟩ = some ([fa r, fb r].map PyData.int, ⟨[c0, c1, c2, c3, c4, .val (rcsD bl), .val (rcD r), .no], none⟩) := iterS_ev (d := .tuple [.int (fa r), .int (fb r)]) (eTup_ev (aCons_ev (eBin_ev rfl rfl (h1 r)) (aOne_ev (eBin_ev rfl rfl (h2 r)))) (by simp)) rfl
    exact pfor_ev (g := gNm 7) (ft := eC (.bool true)) (f := eVar 7) (vs := [7]) (acc := acc) [fa r, fb r] PyData.int (fun _ => true) PyData.int rfl it (fun n _ => ⟨_, rfl, rfl, fun _ => rfl, rfl⟩) (by simpa using ha)
  · rw [filter_true]
    have := flat_len (f := fun r : Rc => [PyData.int (fa r), PyData.int (fb r)]) (m := 2) (xs := bl) fun _ _ => by simp
    omega
end
def rcsF (b : List Rc) (q : Int) : List Rc := turnB b q ++ [⟨-frm b, -frm b, frm b, frm b⟩]
def lq (fa fb : Rc → Int) (ps : List Int) (rs : List Rc) : List Int := ps.flatMap fun p => rs.flatMap fun r => [p - fa r, p - fb r]
def lnX (R : Rm) (b : List Rc) (es : List Sd) : List Int := es.map (·.x) ++ (rng 0 4).flatMap fun q => lq (·.a) (·.c) (sortI (edX R)) (rcsF b q)
def lnY (R : Rm) (b : List Rc) (es : List Sd) : List Int := es.map (·.y) ++ (rng 0 4).flatMap fun q => lq (·.b) (·.d) (sortI (edY R)) (rcsF b q)
def LX (R : Rm) (b : List Rc) (es : List Sd) : List Int := sortI (lnX R b es)
def LY (R : Rm) (b : List Rc) (es : List Sd) : List Int := sortI (lnY R b es)
theorem mem_lq {fa fb : Rc → Int} {ps : List Int} {rs : List Rc} {n : Int} : n ∈ lq fa fb ps rs ↔ ∃ p ∈ ps, ∃ r ∈ rs, n = p - fa r ∨ n = p - fb r := by
  unfold lq
  simp only [List.mem_flatMap, List.mem_cons, List.not_mem_nil, or_false]
theorem mem_LX {R : Rm} {b : List Rc} {es : List Sd} {n : Int} : n ∈ LX R b es ↔ (∃ e ∈ es, n = e.x) ∨ ∃ q, (0 ≤ q ∧ q < 4) ∧ ∃ p ∈ edX R, ∃ r ∈ rcsF b q, n = p - r.a ∨ n = p - r.c := by
  unfold LX lnX
  rw [mem_sortI, List.mem_append, List.mem_map, List.mem_flatMap]
  simp only [mem_rng, mem_lq, mem_sortI, eq_comm]
theorem mem_LY {R : Rm} {b : List Rc} {es : List Sd} {n : Int} : n ∈ LY R b es ↔ (∃ e ∈ es, n = e.y) ∨ ∃ q, (0 ≤ q ∧ q < 4) ∧ ∃ p ∈ edY R, ∃ r ∈ rcsF b q, n = p - r.b ∨ n = p - r.d := by
  unfold LY lnY
  rw [mem_sortI, List.mem_append, List.mem_map, List.mem_flatMap]
  simp only [mem_rng, mem_lq, mem_sortI, eq_comm]
theorem lq_len (fa fb : Rc → Int) {ps : List Int} {rs : List Rc} (h1 : ps.length ≤ 34) (h2 : rs.length ≤ 7) : (lq fa fb ps rs).length ≤ 476 := by
  have := flat_len (f := fun p => rs.flatMap fun r => [p - fa r, p - fb r]) (m := 14) (xs := ps) fun p _ => by rw [two_len]; omega
  show (ps.flatMap fun p => rs.flatMap fun r => [p - fa r, p - fb r]).length ≤ _
  omega
theorem turn_len (b : List Rc) (q : Int) : (turnB b q).length = b.length := by
  unfold turnB
  generalize rng 0 q = l
  induction l generalizing b with
  | nil => rfl
  | cons x l ih => rw [List.foldl_cons, ih, List.length_map]
theorem rcsF_len {b : List Rc} (hb : okB b) (q : Int) : (rcsF b q).length ≤ 7 := by
  unfold rcsF
  rw [List.length_append, turn_len]
  have := hb.2.1
  simp
  omega
section
variable (c0 c1 c2 c3 c4 c5 c6 c7 c8 : C)
/-- [place - one for place in .. for rect in rects for one in (rect[i], rect[j])] -/
theorem line_comp (v : Nat) (ps : List Int) (rs : List Rc) (hp : ps.length ≤ 34) (hr : rs.length ≤ 7) (i j : Int) (fa fb : Rc → Int) (h1 : ∀ r, ixD (rcD r) (.int i) = some (.int (fa r))) (h2 : ∀ r, ixD (rcD r) (.int j) = some (.int (fb r))) (hv : (iterS (eVar v)) ⟨[c0, c1, c2, c3, c4, c5, c6, c7, c8, .val (rcsD rs), .no, .no, .no], none⟩ = some (ps.map PyData.int, ⟨[c0, c1, c2, c3, c4, c5, c6, c7, c8, .val (rcsD rs), .no, .no, .no], none⟩)) :
    eComp (iterS (eVar v)) (gNm 11) (eC (.bool true)) [11, 12, 10] (pFor (iterS (eVar 9)) (gNm 12) (eC (.bool true)) [12] (pFor (iterS (eTup (aCons (eBin ixD (eVar 12) (eC (.int i))) (aCons (eBin ixD (eVar 12) (eC (.int j))) (aNil))))) (gNm 10) (eC (.bool true)) [10] (pEmit (eBin subD (eVar 11) (eVar 10))))) ⟨[c0, c1, c2, c3, c4, c5, c6, c7, c8, .val (rcsD rs), .no, .no, .no], none⟩ = some (.list ((lq fa fb ps rs).map PyData.int), ⟨[c0, c1, c2, c3, c4, c5, c6, c7, c8, .val (rcsD rs), .no, .no, .no], none⟩) := by
  have rl : ∀ p : Int, (rs.flatMap fun r => [PyData.int (p - fa r), PyData.int (p - fb r)]).length ≤ 14 := fun p => by
    have := flat_len (f := fun r : Rc => [PyData.int (p - fa r), PyData.int (p - fb r)]) (m := 2) (xs := rs) fun _ _ => by simp
    omega
  have q := compg_ev (fi := iterS (eVar v)) (g := gNm 11) (ft := eC (.bool true)) (vs := [11, 12, 10]) (inner := pFor (iterS (eVar 9)) (gNm 12) (eC (.bool true)) [12] (pFor (iterS (eTup (aCons (eBin ixD (eVar 12) (eC (.int i))) (aCons (eBin ixD (eVar 12) (eC (.int j))) (aNil))))) (gNm 10) (eC (.bool true)) [10] (pEmit (eBin subD (eVar 11) (eVar 10))))) (s := ⟨[c0, c1, c2, c3, c4, c5, c6, c7, c8, .val (rcsD rs), .no, .no, .no], none⟩) (s1 := ⟨[c0, c1, c2, c3, c4, c5, c6, c7, c8, .val (rcsD rs), .no, .no, .no], none⟩) ps PyData.int (fun _ => true) (fun p => rs.flatMap fun r => [.int (p - fa r), .int (p - fb r)]) hv rfl rfl (fun p hp' => ⟨⟨[c0, c1, c2, c3, c4, c5, c6, c7, c8, .val (rcsD rs), .no, .val (.int p), .no], none⟩, rfl, rfl, fun _ acc ha => ?_, rfl⟩) ?_
  · rw [q, filter_true]
    unfold lq
    simp only [List.map_flatMap, List.map_cons, List.map_nil]
  · have w := pforg_ev (fi := iterS (eVar 9)) (g := gNm 12) (ft := eC (.bool true)) (vs := [12]) (s := ⟨[c0, c1, c2, c3, c4, c5, c6, c7, c8, .val (rcsD rs), .no, .val (.int p), .no], none⟩) (inner := pFor (iterS (eTup (aCons (eBin ixD (eVar 12) (eC (.int i))) (aCons (eBin ixD (eVar 12) (eC (.int j))) (aNil))))) (gNm 10) (eC (.bool true)) [10] (pEmit (eBin subD (eVar 11) (eVar 10)))) (acc := acc) rs rcD (fun _ => true) (fun r => [.int (p - fa r), .int (p - fb r)]) rfl rfl (fun r hr' => ⟨⟨[c0, c1, c2, c3, c4, c5, c6, c7, c8, .val (rcsD rs), .no, .val (.int p), .val (rcD r)], none⟩, rfl, rfl, fun _ acc' ha' => ?_, rfl⟩) (by rw [filter_true]; exact ha)
    · rw [filter_true] at w
      exact w
    · have it : (iterS (eTup (aCons (eBin ixD (eVar 12) (eC (.int i))) (aCons (eBin ixD (eVar 12) (eC (.int j))) (aNil))))) ⟨[c0, c1, c2, c3, c4, c5, c6, c7, c8, .val (rcsD rs), .no, .val (.int p), .val (rcD r)], none⟩ = some ([fa r, fb r].map PyData.int, ⟨[c0, c1, c2, c3, c4, c5, c6, c7, c8, .val (rcsD rs), .no, .val (.int p), .val (rcD r)], none⟩) := iterS_ev (d := .tuple [.int (fa r), .int (fb r)]) (eTup_ev (aCons_ev (eBin_ev rfl rfl (h1 r)) (aOne_ev (eBin_ev rfl rfl (h2 r)))) (by simp)) rfl
      exact pfor_ev (g := gNm 10) (ft := eC (.bool true)) (f := eBin subD (eVar 11) (eVar 10)) (vs := [10]) (acc := acc') [fa r, fb r] PyData.int (fun _ => true) (fun n => .int (p - n)) rfl it (fun n _ => ⟨_, rfl, rfl, fun _ => rfl, rfl⟩) (by simpa using ha')
  · rw [filter_true]
    have := flat_len (f := fun p : Int => rs.flatMap fun r => [PyData.int (p - fa r), PyData.int (p - fb r)]) (m := 14) (xs := ps) fun p _ => rl p
    omega
end
theorem addT_ev (a b : List D) (h : a.length + b.length ≤ 100000) : addD (.tuple a) (.tuple b) = some (.tuple (a ++ b)) := by
  show (if _ then some (PyData.tuple (a ++ b)) else none) = _
  rw [if_pos h]
theorem isi_seq {c : D} {es : List Sd} (hc : seqD c = some (es.map sdD)) (h : c = .list (es.map sdD) ∨ c = .tuple (es.map sdD)) : isi2D .list .tuple c = some (.bool true) := by
  rcases h with rfl | rfl <;> rfl
theorem LX_len {R : Rm} {b : List Rc} (hR : okR R) (hb : okB b) (es : List Sd) : (LX R b es).length ≤ es.length + 1904 ∧ (LY R b es).length ≤ es.length + 1904 := by
  have e1 : (sortI (edX R)).length ≤ 34 := Nat.le_trans (sortI_len _) (edX_len hR)
  have e2 : (sortI (edY R)).length ≤ 34 := Nat.le_trans (sortI_len _) (edY_len hR)
  have r4 : (rng 0 4).length = 4 := rfl
  constructor
  · refine Nat.le_trans (sortI_len _) ?_
    unfold lnX
    rw [List.length_append, List.length_map]
    have := flat_len (f := fun q => lq (·.a) (·.c) (sortI (edX R)) (rcsF b q)) (m := 476) (xs := rng 0 4) fun q _ => lq_len _ _ e1 (rcsF_len hb q)
    omega
  · refine Nat.le_trans (sortI_len _) ?_
    unfold lnY
    rw [List.length_append, List.length_map]
    have := flat_len (f := fun q => lq (·.b) (·.d) (sortI (edY R)) (rcsF b q)) (m := 476) (xs := rng 0 4) fun q _ => lq_len _ _ e2 (rcsF_len hb q)
    omega
end Fx

namespace Fx
open PySem PySem.Spec L2
theorem rows_nodup {F : Int → Int → Int → Bool} {ys xs : List Int} (hx : xs.Pairwise (· < ·)) (hy : ys.Pairwise (· < ·)) : (rowX F ys xs).Nodup := by
  unfold rowX List.Nodup
  rw [List.pairwise_flatMap]
  refine ⟨fun x _ => ?_, List.Pairwise.imp (fun {a c} h k hk l hl => ?_) hx⟩
  · unfold rowY
    rw [List.pairwise_flatMap]
    refine ⟨fun y _ => ?_, List.Pairwise.imp (fun {a c} h k hk l hl => ?_) hy⟩
    · unfold rowQ
      rw [List.pairwise_map]
      refine List.Pairwise.imp (fun {a c} h e => ?_) (List.Pairwise.filter _ (rng_pw 0 4))
      simp at e
      omega
    · obtain ⟨_, _, _, rfl⟩ := (mem_rowQ F).mp hk
      obtain ⟨_, _, _, rfl⟩ := (mem_rowQ F).mp hl
      intro e
      simp at e
      omega
  · obtain ⟨_, _, _, _, _, rfl⟩ := (mem_rowY F).mp hk
    obtain ⟨_, _, _, _, _, rfl⟩ := (mem_rowY F).mp hl
    intro e
    simp at e
    omega
/-- the corners, as rows -/
def cnr (R : Rm) (b : List Rc) (es : List Sd) : List (List Int) := rowX (fun x y q => std R b ⟨x, y, q⟩) (LY R b es) (LX R b es)
def onL (R : Rm) (b : List Rc) (es : List Sd) (k : List Int) : Bool := decide (k.getD 0 0 ∈ LX R b es) && decide (k.getD 1 0 ∈ LY R b es)
section
variable {R : Rm} {b : List Rc} {F : Int → Int → Int → Bool}
theorem cnr_eq (hb : okB b) (es : List Sd) (hF : ∀ x y q, 0 ≤ q ∧ q ≤ 3 → F x y q = std R b ⟨x, y, q⟩) : cnr R b es = (rowX F (rng (0 - frm b) (R.h + frm b + 1)) (rng (0 - frm b) (R.w + frm b + 1))).filter (onL R b es) := by
  refine List.Perm.eq_of_pairwise (le := fun a b => leR a b = true) (fun a b _ _ h1 h2 => leR_anti a b h1 h2) (rows_sorted (sortI_pw _) (sortI_pw _)) ((rows_sorted (rng_pw _ _) (rng_pw _ _)).filter _) ?_
  refine (List.perm_ext_iff_of_nodup (rows_nodup (sortI_pw _) (sortI_pw _)) ((rows_nodup (rng_pw _ _) (rng_pw _ _)).filter _)).mpr fun k => ?_
  rw [List.mem_filter]
  constructor
  · intro h
    obtain ⟨x, hx, y, hy, q, hq, hf, rfl⟩ := (mem_rowX _).mp h
    have hq' : 0 ≤ q ∧ q ≤ 3 := by rw [mem_rng] at hq; omega
    have m := free_mem (R := R) (F := F) hb hF (x := x) (y := y) hq'
    rw [hf, decide_eq_true_eq] at m
    refine ⟨m, ?_⟩
    unfold onL
    rw [Bool.and_eq_true, decide_eq_true_eq, decide_eq_true_eq]
    exact ⟨hx, hy⟩
  · rintro ⟨h, o⟩
    obtain ⟨x, hx, y, hy, q, hq, hf, rfl⟩ := (mem_rowX _).mp h
    have hq' : 0 ≤ q ∧ q ≤ 3 := by rw [mem_rng] at hq; omega
    unfold onL at o
    rw [Bool.and_eq_true, decide_eq_true_eq, decide_eq_true_eq] at o
    exact (mem_rowX _).mpr ⟨x, o.1, y, o.2, q, hq, by rw [← hF _ _ _ hq']; exact hf, rfl⟩
end
/-! ### between the lines nothing changes -/
theorem fit_say {R : Rm} {r : Rc} : fit R r = true ↔ (0 ≤ r.a ∧ 0 ≤ r.b ∧ r.c ≤ R.w ∧ r.d ≤ R.h) ∧ ∀ s ∈ R.bl, ¬ (r.a < s.c ∧ s.a < r.c ∧ r.b < s.d ∧ s.b < r.d) := by
  unfold fit out
  rw [Bool.and_eq_true, Bool.not_eq_true', Bool.not_eq_true', List.any_eq_false]
  constructor
  · rintro ⟨h1, h2⟩
    simp only [Bool.or_eq_false_iff, decide_eq_false_iff_not] at h1
    refine ⟨by omega, fun s hs z => h2 s hs ?_⟩
    unfold ov
    simp only [Bool.and_eq_true, decide_eq_true_eq]
    exact z
  · rintro ⟨h1, h2⟩
    refine ⟨by simp only [Bool.or_eq_false_iff, decide_eq_false_iff_not]; omega, fun s hs z => h2 s hs ?_⟩
    unfold ov at z
    simp only [Bool.and_eq_true, decide_eq_true_eq] at z
    exact z
theorem std_say {R : Rm} {b : List Rc} {x y q : Int} : std R b ⟨x, y, q⟩ = true ↔ ∀ r ∈ turnB b q, fit R (shift x y r) = true := by
  unfold std plc
  rw [List.all_map, List.all_eq_true]
  rfl
theorem edX_mem {R : Rm} : 0 ∈ edX R ∧ R.w ∈ edX R ∧ ∀ s ∈ R.bl, s.a ∈ edX R ∧ s.c ∈ edX R := by
  unfold edX
  refine ⟨by simp, by simp, fun s hs => ?_⟩
  constructor <;> refine List.mem_append_right _ (List.mem_flatMap.mpr ⟨s, hs, by simp⟩)
theorem edY_mem {R : Rm} : 0 ∈ edY R ∧ R.h ∈ edY R ∧ ∀ s ∈ R.bl, s.b ∈ edY R ∧ s.d ∈ edY R := by
  unfold edY
  refine ⟨by simp, by simp, fun s hs => ?_⟩
  constructor <;> refine List.mem_append_right _ (List.mem_flatMap.mpr ⟨s, hs, by simp⟩)
section
variable {R : Rm} {b : List Rc} {es : List Sd} {x y q : Int}
theorem onX (hq : 0 ≤ q ∧ q < 4) {r : Rc} (hr : r ∈ turnB b q) {p : Int} (hp : p ∈ edX R) : p - r.a ∈ LX R b es ∧ p - r.c ∈ LX R b es :=
  ⟨mem_LX.mpr (.inr ⟨q, hq, p, hp, r, List.mem_append_left _ hr, .inl rfl⟩), mem_LX.mpr (.inr ⟨q, hq, p, hp, r, List.mem_append_left _ hr, .inr rfl⟩)⟩
theorem onY (hq : 0 ≤ q ∧ q < 4) {r : Rc} (hr : r ∈ turnB b q) {p : Int} (hp : p ∈ edY R) : p - r.b ∈ LY R b es ∧ p - r.d ∈ LY R b es :=
  ⟨mem_LY.mpr (.inr ⟨q, hq, p, hp, r, List.mem_append_left _ hr, .inl rfl⟩), mem_LY.mpr (.inr ⟨q, hq, p, hp, r, List.mem_append_left _ hr, .inr rfl⟩)⟩
theorem left1 (hq : 0 ≤ q ∧ q < 4) (h : std R b ⟨x, y, q⟩ = true) (hx : x ∉ LX R b es) : std R b ⟨x - 1, y, q⟩ = true := by
  rw [std_say] at *
  intro r hr
  have f := h r hr
  rw [fit_say] at *
  unfold shift at *
  dsimp only at *
  obtain ⟨⟨f1, f2, f3, f4⟩, f5⟩ := f
  have n0 : r.a + x ≠ 0 := fun z => hx (by
    have := (onX (R := R) (es := es) hq hr edX_mem.1).1
    have e : 0 - r.a = x := by omega
    rwa [e] at this)
  refine ⟨by omega, fun s hs z => f5 s hs ?_⟩
  have n1 : r.a + x ≠ s.c := fun z => hx (by
    have := (onX (R := R) (es := es) hq hr (edX_mem.2.2 s hs).2).1
    have e : s.c - r.a = x := by omega
    rwa [e] at this)
  omega
theorem down1 (hq : 0 ≤ q ∧ q < 4) (h : std R b ⟨x, y, q⟩ = true) (hy : y ∉ LY R b es) : std R b ⟨x, y - 1, q⟩ = true := by
  rw [std_say] at *
  intro r hr
  have f := h r hr
  rw [fit_say] at *
  unfold shift at *
  dsimp only at *
  obtain ⟨⟨f1, f2, f3, f4⟩, f5⟩ := f
  have n0 : r.b + y ≠ 0 := fun z => hy (by
    have := (onY (R := R) (es := es) hq hr edY_mem.1).1
    have e : 0 - r.b = y := by omega
    rwa [e] at this)
  refine ⟨by omega, fun s hs z => f5 s hs ?_⟩
  have n1 : r.b + y ≠ s.d := fun z => hy (by
    have := (onY (R := R) (es := es) hq hr (edY_mem.2.2 s hs).2).1
    have e : s.d - r.b = y := by omega
    rwa [e] at this)
  omega
end
theorem to_lineX {R : Rm} {b : List Rc} (hb : okB b) (es : List Sd) {y q : Int} (hq : 0 ≤ q ∧ q < 4) : ∀ (n : Nat) (x : Int), x + frm b ≤ n → std R b ⟨x, y, q⟩ = true → ∃ x' ∈ LX R b es, std R b ⟨x', y, q⟩ = true
  | 0, x, hn, h => by
    by_cases hx : x ∈ LX R b es
    · exact ⟨x, hx, h⟩
    · have := (std_range hb (left1 hq h hx)).1
      have := (std_range hb h).1
      omega
  | n + 1, x, hn, h => by
    by_cases hx : x ∈ LX R b es
    · exact ⟨x, hx, h⟩
    · exact to_lineX hb es hq n (x - 1) (by omega) (left1 hq h hx)
theorem to_lineY {R : Rm} {b : List Rc} (hb : okB b) (es : List Sd) {x q : Int} (hq : 0 ≤ q ∧ q < 4) : ∀ (n : Nat) (y : Int), y + frm b ≤ n → std R b ⟨x, y, q⟩ = true → ∃ y' ∈ LY R b es, std R b ⟨x, y', q⟩ = true
  | 0, y, hn, h => by
    by_cases hy : y ∈ LY R b es
    · exact ⟨y, hy, h⟩
    · have := (std_range hb (down1 hq h hy)).2.2.1
      omega
  | n + 1, y, hn, h => by
    by_cases hy : y ∈ LY R b es
    · exact ⟨y, hy, h⟩
    · exact to_lineY hb es hq n (y - 1) (by omega) (down1 hq h hy)
theorem some_corner {R : Rm} {b : List Rc} (hb : okB b) (es : List Sd) {x y q : Int} (hq : 0 ≤ q ∧ q < 4) (h : std R b ⟨x, y, q⟩ = true) : cnr R b es ≠ [] := by
  obtain ⟨x', hx, h1⟩ := to_lineX hb es hq (x + frm b).toNat x (by have := (std_range hb h).1; omega) h
  obtain ⟨y', hy, h2⟩ := to_lineY hb es hq (y + frm b).toNat y (by have := (std_range hb h1).2.2.1; omega) h1
  have m : [x', y', q] ∈ cnr R b es := (mem_rowX _).mpr ⟨x', hx, y', hy, q, mem_rng.mpr hq, h2, rfl⟩
  intro e
  rw [e] at m
  cases m
/-! ### the law -/
theorem turned_ev (b : List Rc) (q : Int) (hb : okB b) (hq : 0 ≤ q ∧ q < 4) : g_turned [rcsD b, .int q] = some (rcsD (turnB b q)) := by
  have hbl : b.length ≤ 100000 := by have := hb.2.1; omega
  have n : g_look_number [.int q, .int 0, .int 3] = some .none := fnV_next (rho := [.val (.int q), .val (.int 0), .val (.int 3)]) (sIf_f (not_ev (p := true) (eFn_ev (xs := [.int q, .int 0, .int 3]) rfl rfl (by rw [is_whole_ev]; simp; omega))) rfl)
  exact fnV_ev (rho := [.val (rcsD b), .val (.int q), .no, .no].take 2) (sSeq_ev (sExpr_ev (eFn_ev rfl rfl (look_body_ev b hb))) (sSeq_ev (sExpr_ev (eFn_ev rfl rfl n)) (sRet_ev (eFn_ev rfl rfl (turned_by_ev b q (by omega) hbl).1))))
theorem inI_ev (ns : List Int) (n : Int) : inD (.int n) (.list (ns.map PyData.int)) = some (.bool (decide (n ∈ ns))) := by
  unfold inD
  show (if SeqAt.shaped (.int n) = true ∧ SeqAt.shaped (.list (ns.map PyData.int)) = true then _ else _) = _
  rw [if_pos ⟨rfl, shaped_ints ns⟩]
  congr 2
  induction ns with
  | nil => rfl
  | cons m ns ih =>
    rw [List.map_cons, List.any_cons, ih]
    show ((m == n) || _) = _
    by_cases h : m = n
    · simp [h]
    · have h' : ¬ n = m := fun z => h z.symm
      simp [h, h']
theorem list2_eq (a b : List Int) : neD (.tuple [.list (a.map PyData.int), .list (b.map PyData.int)]) (.tuple [.list (a.map PyData.int), .list (b.map PyData.int)]) = some (.bool false) := by
  have c1 := shaped_ints a
  have c2 := shaped_ints b
  have sh : SeqAt.shaped (.tuple [.list (a.map PyData.int), .list (b.map PyData.int)]) = true := by
    unfold SeqAt.shaped at *
    simp only [Bool.and_eq_true, decide_eq_true_eq] at *
    refine ⟨by simp [PyData.canLay0, PyData.canLayAll0, canLay_ints], ?_⟩
    have d : ∀ k : List Int, PyData.depthAll (k.map PyData.int) = 0 := fun k => by
      induction k with
      | nil => rfl
      | cons x k ih => rw [List.map_cons, PyData.depthAll, ih]; rfl
    simp [PyData.depth, PyData.depthAll, d]
  unfold neD
  rw [if_pos ⟨sh, sh⟩]
  show some (PyData.bool (!(PyData.eqvAll (a.map PyData.int) (a.map PyData.int) && (PyData.eqvAll (b.map PyData.int) (b.map PyData.int) && true)))) = _
  rw [eqv_ints, eqv_ints]
  simp
end Fx
namespace Fx
open PySem PySem.Spec L2
theorem mix_same {l : List C} {t t' : Option Tw} (vs : List Nat) : (⟨l, t⟩ : S).mix ⟨l, t'⟩ vs = ⟨l, t'⟩ := by
  unfold S.mix
  congr 1
  refine List.ext_getElem (by simp) fun j h1 h2 => ?_
  rw [List.getElem_mapIdx]
  split
  · rw [List.getD_eq_getElem?_getD, List.getElem?_eq_getElem h2]
    rfl
  · rfl
/-- a comprehension whose steps draw -/
theorem compT_ev {α β : Type} {fi : Fa} {g : Fg} {f : Fe} {vs : List Nat} {l : List C} {t : Tw} {s : S} {xs : List α} (enc : α → D) (out : β → D) (Good : β → Prop) (ot : okT t) (hl : xs.length ≤ 100000) (hi : fi s = some (xs.map enc, ⟨l, some t⟩)) (hv : noOwn ⟨l, some t⟩ vs = true) (hw : (⟨l, some t⟩ : S).wipe vs = ⟨l, some t⟩) (h : ∀ x ∈ xs, ∀ t, okT t → ∃ lx o t', g (enc x) ⟨l, some t⟩ = some ⟨lx, some t⟩ ∧ f ⟨lx, some t⟩ = some (out o, ⟨lx, some t'⟩) ∧ Good o ∧ okT t' ∧ (⟨lx, some t'⟩ : S).wipe vs = ⟨l, some t'⟩) :
    ∃ (os : List β) (t' : Tw), eComp fi g (eC (.bool true)) vs (pEmit f) s = some (.list (os.map out), ⟨l, some t'⟩) ∧ os.length = xs.length ∧ (∀ o ∈ os, Good o) ∧ okT t' := by
  obtain ⟨os, t3, k1, k2, k3, k4⟩ := clT_ev (vs := vs) enc out Good (xs := xs) (acc := []) (t := t) ot (by simpa using hl) h
  refine ⟨os, t3, ?_, k2, k3, k4⟩
  unfold eComp
  rw [hi, Option.bind_some]
  dsimp only
  rw [if_pos hv, hw, k1, Option.map_some]
  dsimp only
  rw [mix_same, List.nil_append]
end Fx
namespace Fx
open PySem PySem.Spec L2
end Fx
namespace Fx
open PySem PySem.Spec L2
theorem map_ev0 {α : Type} {fi : Fa} {g : Fg} {f : Fe} {vs : List Nat} {s : S} {l : List C} {t : Option Tw} (xs : List α) (enc : α → D) (out : α → D) (h1 : fi s = some (xs.map enc, ⟨l, t⟩)) (hv : noOwn ⟨l, t⟩ vs = true) (hw : (⟨l, t⟩ : S).wipe vs = ⟨l, t⟩) (hs : ∀ x ∈ xs, ∃ sx, g (enc x) ⟨l, t⟩ = some sx ∧ f sx = some (out x, sx) ∧ sx.wipe vs = ⟨l, t⟩) (hl : xs.length ≤ 100000) :
    eComp fi g (eC (.bool true)) vs (pEmit f) s = some (.list (xs.map out), ⟨l, t⟩) :=
  map_ev xs enc out h1 hv (by rw [hw]; exact mix_same vs) (by rw [hw]; exact hs) hl
theorem comp_ev0 {α : Type} {fi : Fa} {g : Fg} {ft f : Fe} {vs : List Nat} {s : S} {l : List C} {t : Option Tw} (xs : List α) (enc : α → D) (p : α → Bool) (out : α → D) (h1 : fi s = some (xs.map enc, ⟨l, t⟩)) (hv : noOwn ⟨l, t⟩ vs = true) (hw : (⟨l, t⟩ : S).wipe vs = ⟨l, t⟩) (hs : ∀ x ∈ xs, ∃ sx, g (enc x) ⟨l, t⟩ = some sx ∧ ft sx = some (.bool (p x), sx) ∧ (p x = true → f sx = some (out x, sx)) ∧ sx.wipe vs = ⟨l, t⟩) (hl : xs.length ≤ 100000) :
    eComp fi g ft vs (pEmit f) s = some (.list ((xs.filter p).map out), ⟨l, t⟩) :=
  comp_ev xs enc p out h1 hv (by rw [hw]; exact mix_same vs) (by rw [hw]; exact hs) hl
section
variable (R : Rm) (b : List Rc) (t : Tw) (c2 c3 : C)
end
end Fx
namespace Fx
open PySem PySem.Spec L2
theorem eIf_ev {c f1 f2 : Fe} {s s1 : S} {p : Bool} {r : Option (D × S)} (h : c s = some (.bool p, s1)) (ht : p = true → f1 s1 = r) (hf : p = false → f2 s1 = r) : eIf c f1 f2 s = r := by
  unfold eIf
  rw [h]
  cases p with
  | true => exact ht rfl
  | false => exact hf rfl
theorem eFnE_ev {n : Nat} {g : List D → Option D} {fa : Fa} {s s1 : S} {xs : List D} {d : D} (h1 : fa s = some (xs, s1)) (hn : xs.length = n) (h3 : g (xs ++ [.tuple []]) = some d) : eFnE n g fa s = some (d, s1) := by
  unfold eFnE
  rw [h1, Option.bind_some]
  dsimp only
  rw [if_pos hn, h3]
  rfl
theorem ne_nil_ev (ks : List (List Int)) : neD (.list (ks.map kD)) (.list []) = some (.bool (!decide (ks = []))) := by
  unfold neD
  rw [if_pos ⟨shaped_rows ks, by decide +kernel⟩]
  cases ks <;> rfl
end Fx


namespace Fx
open PySem PySem.Spec L2
/-! ### searches breadth first -/
section
variable {α : Type} [DecidableEq α]
inductive Rch (nb : α → List α) (a : α) : α → Prop
  | refl : Rch nb a a
  | step {x y : α} : Rch nb a x → y ∈ nb x → Rch nb a y
def addAll (o ts : List α) : List α := ts.foldl (fun o t => if t ∈ o then o else o ++ [t]) o
theorem mem_addAll : ∀ {ts o : List α} {x : α}, x ∈ addAll o ts ↔ x ∈ o ∨ x ∈ ts
  | [], o, x => by simp [addAll]
  | t :: ts, o, x => by
    show x ∈ addAll (if t ∈ o then o else o ++ [t]) ts ↔ _
    rw [mem_addAll]
    by_cases h : t ∈ o
    · rw [if_pos h, List.mem_cons]
      constructor
      · rintro (z | z)
        · exact .inl z
        · exact .inr (.inr z)
      · rintro (z | rfl | z)
        · exact .inl z
        · exact .inl h
        · exact .inr z
    · rw [if_neg h, List.mem_append, List.mem_singleton, List.mem_cons, or_assoc]
theorem addAll_nodup : ∀ {ts o : List α}, o.Nodup → (addAll o ts).Nodup
  | [], o, h => h
  | t :: ts, o, h => by
    show (addAll (if t ∈ o then o else o ++ [t]) ts).Nodup
    refine addAll_nodup ?_
    by_cases m : t ∈ o
    · rw [if_pos m]; exact h
    · rw [if_neg m]
      refine List.nodup_append.mpr ⟨h, by simp, fun x hx y hy => ?_⟩
      rw [List.mem_singleton] at hy
      rintro rfl
      exact m (hy ▸ hx)
theorem addAll_pre : ∀ (ts o : List α), ∃ r, addAll o ts = o ++ r
  | [], o => ⟨[], by simp [addAll]⟩
  | t :: ts, o => by
    obtain ⟨r, e⟩ := addAll_pre ts (if t ∈ o then o else o ++ [t])
    show ∃ r, addAll (if t ∈ o then o else o ++ [t]) ts = o ++ r
    rw [e]
    split
    · exact ⟨r, rfl⟩
    · exact ⟨[t] ++ r, by simp⟩
theorem nodup_len {l m : List α} (n : l.Nodup) (h : ∀ x ∈ l, x ∈ m) : l.length ≤ m.length := by
  induction l generalizing m with
  | nil => exact Nat.zero_le _
  | cons a l ih =>
    obtain ⟨n1, n2⟩ := List.nodup_cons.mp n
    have ha := h a List.mem_cons_self
    have := ih (m := m.erase a) n2 fun x hx => (List.mem_erase_of_ne (fun e => n1 (by rw [← e]; exact hx))).mpr (h x (List.mem_cons_of_mem _ hx))
    rw [List.length_erase_of_mem ha] at this
    have : 0 < m.length := List.length_pos_of_mem ha
    rw [List.length_cons]
    omega
/-- the loop: I o at s says what the state s holds -/
theorem bfs_loop (nb : α → List α) (a : α) (stop : α → Bool) (I : List α → Nat → S → Prop) (univ : List α) (J : S → Prop) {c : Fe} {F : Fs} {d : D}
    (hu : ∀ x, Rch nb a x → x ∈ univ)
    (hc : ∀ o k s, I o k s → c s = some (.bool (decide (k < o.length)), s))
    (hF : ∀ o k s h, I o k s → o[k]? = some h → Rch nb a h → (∀ x ∈ o, Rch nb a x) → o.Nodup → ∃ s', (stop h = true → F s = some (.ret d, s') ∧ J s') ∧ (stop h = false → F s = some (.next, s') ∧ I (addAll o (nb h)) (k + 1) s')) :
    ∀ (n : Nat) (o : List α) (k : Nat) (s : S) (fuel : Nat), univ.length - k ≤ n → n < fuel → I o k s → a ∈ o → k ≤ o.length → o.Nodup → (∀ x ∈ o, Rch nb a x) → (∀ i h, i < k → o[i]? = some h → stop h = false ∧ ∀ y ∈ nb h, y ∈ o) →
      (∃ s', (∃ g, Rch nb a g ∧ stop g = true) ∧ whileF c F fuel s = some (.ret d, s') ∧ J s') ∨ ∃ s' o', (∀ g, Rch nb a g → stop g = false) ∧ whileF c F fuel s = some (.next, s') ∧ I o' o'.length s' ∧ ∀ x, x ∈ o' ↔ Rch nb a x := by
  intro n
  induction n with
  | zero =>
    intro o k s fuel hn hf hI ha hk nd hr cl
    have ol := nodup_len nd fun x hx => hu x (hr x hx)
    have e : k = o.length := by omega
    subst e
    obtain ⟨f, rfl⟩ : ∃ f, fuel = f + 1 := ⟨fuel - 1, by omega⟩
    have hstop := hc o o.length s hI
    rw [decide_eq_false (by omega)] at hstop
    have comp : ∀ x, Rch nb a x → x ∈ o := fun x hx => by
      induction hx with
      | refl => exact ha
      | step _ hy ih =>
        obtain ⟨i, hi, e⟩ := List.getElem_of_mem ih
        exact (cl i _ hi (by rw [List.getElem?_eq_getElem hi, e])).2 _ hy
    refine .inr ⟨s, o, fun g hg => ?_, while_stop hstop, hI, fun x => ⟨hr x, comp x⟩⟩
    obtain ⟨i, hi, e⟩ := List.getElem_of_mem (comp g hg)
    exact (cl i _ hi (by rw [List.getElem?_eq_getElem hi, e])).1
  | succ n ih =>
    intro o k s fuel hn hf hI ha hk nd hr cl
    obtain ⟨f, rfl⟩ : ∃ f, fuel = f + 1 := ⟨fuel - 1, by omega⟩
    have comp : k = o.length → ∀ x, Rch nb a x → x ∈ o := fun ek x hx => by
      induction hx with
      | refl => exact ha
      | step _ hy ih =>
        obtain ⟨i, hi, e⟩ := List.getElem_of_mem ih
        exact (cl i _ (by omega) (by rw [List.getElem?_eq_getElem hi, e])).2 _ hy
    by_cases hlt : k < o.length
    · have hgo := hc o k s hI
      rw [decide_eq_true hlt] at hgo
      have eh := List.getElem?_eq_getElem hlt
      have hrh := hr _ (List.getElem_mem hlt)
      obtain ⟨s', h1, h2⟩ := hF o k s o[k] hI eh hrh hr nd
      cases hs : stop o[k] with
      | true =>
        refine .inl ⟨s', ⟨o[k], hrh, hs⟩, ?_, (h1 hs).2⟩
        conv => lhs; unfold whileF
        rw [hgo, Option.bind_some]
        dsimp only
        rw [(h1 hs).1]
      | false =>
        obtain ⟨h3, h4⟩ := h2 hs
        obtain ⟨r, er⟩ := addAll_pre (nb o[k]) o
        rw [while_go hgo h3]
        refine ih (addAll o (nb o[k])) (k + 1) s' f (by omega) (by omega) h4 (mem_addAll.mpr (.inl ha)) (by rw [er, List.length_append]; omega) (addAll_nodup nd) (fun x hx => ?_) (fun i h hi e => ?_)
        · rcases mem_addAll.mp hx with z | z
          · exact hr x z
          · exact .step hrh z
        · have hio : i < o.length := by omega
          rw [er, List.getElem?_append_left hio] at e
          by_cases hik : i < k
          · obtain ⟨q1, q2⟩ := cl i h hik e
            exact ⟨q1, fun y hy => mem_addAll.mpr (.inl (q2 y hy))⟩
          · have : i = k := by omega
            subst this
            rw [eh] at e
            cases e
            exact ⟨hs, fun y hy => mem_addAll.mpr (.inr hy)⟩
    · have ek : k = o.length := by omega
      have hstop := hc o k s hI
      rw [decide_eq_false hlt] at hstop
      refine .inr ⟨s, o, fun g hg => ?_, while_stop hstop, ek ▸ hI, fun x => ⟨hr x, comp ek x⟩⟩
      obtain ⟨i, hi, e⟩ := List.getElem_of_mem (comp ek g hg)
      exact (cl i _ (by omega) (by rw [List.getElem?_eq_getElem hi, e])).1
end
end Fx
namespace Fx
open PySem PySem.Spec L2
/-! ### neighbours on the lines -/
def nxt (X : List Int) (x : Int) : List Int := (X.take (X.idxOf x)).drop (X.idxOf x - 1) ++ (X.drop (X.idxOf x + 1)).take 1
theorem mem_nxt {X : List Int} {x n : Int} : n ∈ nxt X x ↔ (∃ h : X.idxOf x - 1 < X.length, 0 < X.idxOf x ∧ X.idxOf x ≤ X.length ∧ n = X[X.idxOf x - 1]) ∨ ∃ h : X.idxOf x + 1 < X.length, n = X[X.idxOf x + 1] := by
  unfold nxt
  generalize X.idxOf x = a
  rw [List.mem_append]
  refine or_congr ?_ ?_
  · constructor
    · intro h
      obtain ⟨i, hi, e⟩ := List.getElem_of_mem h
      rw [List.length_drop, List.length_take] at hi
      have ha : 0 < a := by omega
      have e0 : i = 0 := by omega
      subst e0
      rw [List.getElem_drop, List.getElem_take] at e
      refine ⟨by omega, ha, by omega, ?_⟩
      rw [← e]
      rfl
    · rintro ⟨h, ha, hl, rfl⟩
      refine List.mem_iff_getElem.mpr ⟨0, by rw [List.length_drop, List.length_take]; omega, ?_⟩
      rw [List.getElem_drop, List.getElem_take]
      rfl
  · constructor
    · intro h
      obtain ⟨i, hi, e⟩ := List.getElem_of_mem h
      rw [List.length_take, List.length_drop] at hi
      have e0 : i = 0 := by omega
      subst e0
      rw [List.getElem_take, List.getElem_drop] at e
      exact ⟨by omega, by rw [← e]⟩
    · rintro ⟨h, rfl⟩
      refine List.mem_iff_getElem.mpr ⟨0, by rw [List.length_take, List.length_drop]; omega, ?_⟩
      rw [List.getElem_take, List.getElem_drop]
theorem nxt_sub {X : List Int} {x n : Int} (h : n ∈ nxt X x) : n ∈ X := by
  rcases mem_nxt.mp h with ⟨h1, _, _, rfl⟩ | ⟨h1, rfl⟩
  · exact List.getElem_mem _
  · exact List.getElem_mem _
theorem pw_get {X : List Int} (hp : X.Pairwise (· < ·)) {i j : Nat} (hi : i < X.length) (hj : j < X.length) (h : i < j) : X[i] < X[j] := (List.pairwise_iff_getElem.mp hp) i j hi hj h
theorem adj_nxt {X : List Int} (hp : X.Pairwise (· < ·)) {x n : Int} (hx : x ∈ X) (hn : n ∈ X) (ne : n ≠ x) (gap : ∀ m ∈ X, ¬ (n < m ∧ m < x) ∧ ¬ (x < m ∧ m < n)) : n ∈ nxt X x := by
  have ha : X.idxOf x < X.length := List.idxOf_lt_length_of_mem hx
  have ex : X[X.idxOf x] = x := List.getElem_idxOf ha
  obtain ⟨j, hj, ej⟩ := List.getElem_of_mem hn
  rw [mem_nxt]
  generalize hA : X.idxOf x = a at *
  rcases Nat.lt_trichotomy j a with h | h | h
  · left
    refine ⟨by omega, by omega, by omega, ?_⟩
    by_cases h2 : j = a - 1
    · rw [← ej]; congr 1
    · exfalso
      have l1 := pw_get hp hj (show a - 1 < X.length by omega) (by omega)
      have l2 := pw_get hp (show a - 1 < X.length by omega) ha (by omega)
      refine (gap X[a - 1] (List.getElem_mem _)).1 ⟨?_, ?_⟩
      · omega
      · omega
  · exfalso
    apply ne
    rw [← ej, ← ex]
    congr 1
  · right
    have h1 : a + 1 < X.length := by omega
    refine ⟨h1, ?_⟩
    by_cases h2 : j = a + 1
    · rw [← ej]; congr 1
    · exfalso
      have l1 := pw_get hp ha h1 (by omega)
      have l2 := pw_get hp h1 hj (by omega)
      refine (gap X[a + 1] (List.getElem_mem _)).2 ⟨?_, ?_⟩
      · omega
      · omega
/-! ### unit steps and lines -/
section
variable {R : Rm} {b : List Rc} {es : List Sd} {q : Int}
theorem leftTo (hq : 0 ≤ q ∧ q < 4) {y : Int} : ∀ (k : Nat) (x : Int), std R b ⟨x, y, q⟩ = true → (∀ m, x - k < m → m ≤ x → m ∉ LX R b es) → std R b ⟨x - k, y, q⟩ = true
  | 0, x, h, _ => by simpa using h
  | k + 1, x, h, hm => by
    have ih := leftTo hq k x h fun m h1 h2 => hm m (by omega) h2
    have := left1 (es := es) hq ih (hm (x - k) (by omega) (by omega))
    have e : x - ((k + 1 : Nat) : Int) = x - k - 1 := by omega
    rw [e]
    exact this
theorem downTo (hq : 0 ≤ q ∧ q < 4) {x : Int} : ∀ (k : Nat) (y : Int), std R b ⟨x, y, q⟩ = true → (∀ m, y - k < m → m ≤ y → m ∉ LY R b es) → std R b ⟨x, y - k, q⟩ = true
  | 0, y, h, _ => by simpa using h
  | k + 1, y, h, hm => by
    have ih := downTo hq k y h fun m h1 h2 => hm m (by omega) h2
    have := down1 (es := es) hq ih (hm (y - k) (by omega) (by omega))
    have e : y - ((k + 1 : Nat) : Int) = y - k - 1 := by omega
    rw [e]
    exact this
/-- the line that x falls back to -/
structure Pj (X : List Int) (x n : Int) : Prop where
  mem : n ∈ X
  le : n ≤ x
  gap : ∀ m, n < m → m ≤ x → m ∉ X
theorem pj_self {X : List Int} {x : Int} (h : x ∈ X) : Pj X x x := ⟨h, Int.le_refl _, fun m h1 h2 => by omega⟩
theorem pj_one {X : List Int} {x n m : Int} (h : Pj X x n) (g : Pj X x m) : n = m := by
  rcases Int.lt_trichotomy n m with z | z | z
  · exact absurd g.mem (h.gap m z g.le)
  · exact z
  · exact absurd h.mem (g.gap n z h.le)
theorem std_left (hq : 0 ≤ q ∧ q < 4) {x y n m : Int} (h : std R b ⟨x, y, q⟩ = true) (p : Pj (LX R b es) x n) (h1 : n ≤ m) (h2 : m ≤ x) : std R b ⟨m, y, q⟩ = true := by
  have := leftTo (es := es) hq (x - m).toNat x h fun k k1 k2 => p.gap k (by omega) k2
  have e : x - ((x - m).toNat : Int) = m := by omega
  rwa [e] at this
theorem std_down (hq : 0 ≤ q ∧ q < 4) {x y n m : Int} (h : std R b ⟨x, y, q⟩ = true) (p : Pj (LY R b es) y n) (h1 : n ≤ m) (h2 : m ≤ y) : std R b ⟨x, m, q⟩ = true := by
  have := downTo (es := es) hq (y - m).toNat y h fun k k1 k2 => p.gap k (by omega) k2
  have e : y - ((y - m).toNat : Int) = m := by omega
  rwa [e] at this
theorem pj_X (hb : okB b) (hq : 0 ≤ q ∧ q < 4) {y : Int} : ∀ (k : Nat) (x : Int), x + frm b ≤ k → std R b ⟨x, y, q⟩ = true → ∃ n, Pj (LX R b es) x n
  | 0, x, hk, h => by
    by_cases hx : x ∈ LX R b es
    · exact ⟨x, pj_self hx⟩
    · have := (std_range hb (left1 hq h hx)).1
      omega
  | k + 1, x, hk, h => by
    by_cases hx : x ∈ LX R b es
    · exact ⟨x, pj_self hx⟩
    · obtain ⟨n, p⟩ := pj_X hb hq k (x - 1) (by omega) (left1 hq h hx)
      have := p.le
      refine ⟨n, p.mem, by omega, fun m h1 h2 hm => ?_⟩
      by_cases e : m = x
      · exact hx (e ▸ hm)
      · exact p.gap m h1 (by omega) hm
theorem pj_Y (hb : okB b) (hq : 0 ≤ q ∧ q < 4) {x : Int} : ∀ (k : Nat) (y : Int), y + frm b ≤ k → std R b ⟨x, y, q⟩ = true → ∃ n, Pj (LY R b es) y n
  | 0, y, hk, h => by
    by_cases hy : y ∈ LY R b es
    · exact ⟨y, pj_self hy⟩
    · have := (std_range hb (down1 hq h hy)).2.2.1
      omega
  | k + 1, y, hk, h => by
    by_cases hy : y ∈ LY R b es
    · exact ⟨y, pj_self hy⟩
    · obtain ⟨n, p⟩ := pj_Y hb hq k (y - 1) (by omega) (down1 hq h hy)
      have := p.le
      refine ⟨n, p.mem, by omega, fun m h1 h2 hm => ?_⟩
      by_cases e : m = y
      · exact hy (e ▸ hm)
      · exact p.gap m h1 (by omega) hm
/-- unit steps -/
def nbU (R : Rm) (b : List Rc) (q : Int) (k : List Int) : List (List Int) := [[k.getD 0 0 + 1, k.getD 1 0], [k.getD 0 0 - 1, k.getD 1 0], [k.getD 0 0, k.getD 1 0 + 1], [k.getD 0 0, k.getD 1 0 - 1]].filter fun t => std R b ⟨t.getD 0 0, t.getD 1 0, q⟩
/-- steps on the lines -/
def stL (X Y : List Int) (k : List Int) : List (Int × Int) := (nxt X (k.getD 0 0)).map (fun n => (n - k.getD 0 0, 0)) ++ (nxt Y (k.getD 1 0)).map fun n => (0, n - k.getD 1 0)
def toL (k : List Int) (p : Int × Int) : List Int := [k.getD 0 0 + p.1, k.getD 1 0 + p.2, k.getD 2 0]
def sldK (R : Rm) (b : List Rc) (k : List Int) (p : Int × Int) : Bool := sld R b ⟨k.getD 0 0, k.getD 1 0, k.getD 2 0⟩ p.1 p.2
def nbL (R : Rm) (b : List Rc) (es : List Sd) (k : List Int) : List (List Int) := ((stL (LX R b es) (LY R b es) k).filter (sldK R b k)).map (toL k)
theorem mem_nbU {x y u v : Int} : [u, v] ∈ nbU R b q [x, y] ↔ ((u = x + 1 ∧ v = y) ∨ (u = x - 1 ∧ v = y) ∨ (u = x ∧ v = y + 1) ∨ (u = x ∧ v = y - 1)) ∧ std R b ⟨u, v, q⟩ = true := by
  unfold nbU
  rw [List.mem_filter]
  simp only [List.mem_cons, List.not_mem_nil, or_false, List.cons.injEq, and_true, List.getD_cons_zero, List.getD_cons_succ]
theorem slide_x (hR : okR R) (hb : okB b) {x y n : Int} (h : ∀ m, (x ≤ m ∧ m ≤ n) ∨ (n ≤ m ∧ m ≤ x) → std R b ⟨m, y, q⟩ = true) : sld R b ⟨x, y, q⟩ (n - x) 0 = true := by
  rcases Int.le_total x n with hx | hx
  · have := (sld_iff R hR b hb x y q 1 0 (by simp [dirs]) (n - x).toNat).mpr fun j hj => by
      have e1 : x + 1 * (j : Int) = x + j := by omega
      have e2 : y + 0 * (j : Int) = y := by omega
      rw [e1, e2]
      exact h _ (.inl (by omega))
    have e1 : (1 : Int) * ((n - x).toNat : Nat) = n - x := by omega
    have e2 : (0 : Int) * ((n - x).toNat : Nat) = 0 := by omega
    rwa [e1, e2] at this
  · have := (sld_iff R hR b hb x y q (-1) 0 (by simp [dirs]) (x - n).toNat).mpr fun j hj => by
      have e1 : x + -1 * (j : Int) = x - j := by omega
      have e2 : y + 0 * (j : Int) = y := by omega
      rw [e1, e2]
      exact h _ (.inr (by omega))
    have e1 : (-1 : Int) * ((x - n).toNat : Nat) = n - x := by omega
    have e2 : (0 : Int) * ((x - n).toNat : Nat) = 0 := by omega
    rwa [e1, e2] at this
theorem slide_y (hR : okR R) (hb : okB b) {x y n : Int} (h : ∀ m, (y ≤ m ∧ m ≤ n) ∨ (n ≤ m ∧ m ≤ y) → std R b ⟨x, m, q⟩ = true) : sld R b ⟨x, y, q⟩ 0 (n - y) = true := by
  rcases Int.le_total y n with hx | hx
  · have := (sld_iff R hR b hb x y q 0 1 (by simp [dirs]) (n - y).toNat).mpr fun j hj => by
      have e1 : y + 1 * (j : Int) = y + j := by omega
      have e2 : x + 0 * (j : Int) = x := by omega
      rw [e1, e2]
      exact h _ (.inl (by omega))
    have e1 : (1 : Int) * ((n - y).toNat : Nat) = n - y := by omega
    have e2 : (0 : Int) * ((n - y).toNat : Nat) = 0 := by omega
    rwa [e1, e2] at this
  · have := (sld_iff R hR b hb x y q 0 (-1) (by simp [dirs]) (y - n).toNat).mpr fun j hj => by
      have e1 : y + -1 * (j : Int) = y - j := by omega
      have e2 : x + 0 * (j : Int) = x := by omega
      rw [e1, e2]
      exact h _ (.inr (by omega))
    have e1 : (-1 : Int) * ((y - n).toNat : Nat) = n - y := by omega
    have e2 : (0 : Int) * ((y - n).toNat : Nat) = 0 := by omega
    rwa [e1, e2] at this
theorem nbL_x {x y n : Int} (h1 : n ∈ nxt (LX R b es) x) (h2 : sld R b ⟨x, y, q⟩ (n - x) 0 = true) : [n, y, q] ∈ nbL R b es [x, y, q] := by
  unfold nbL
  refine List.mem_map.mpr ⟨(n - x, 0), List.mem_filter.mpr ⟨List.mem_append_left _ (List.mem_map.mpr ⟨n, h1, rfl⟩), h2⟩, ?_⟩
  show [x + (n - x), y + 0, q] = _
  rw [Int.add_zero, show x + (n - x) = n by omega]
theorem nbL_y {x y n : Int} (h1 : n ∈ nxt (LY R b es) y) (h2 : sld R b ⟨x, y, q⟩ 0 (n - y) = true) : [x, n, q] ∈ nbL R b es [x, y, q] := by
  unfold nbL
  refine List.mem_map.mpr ⟨(0, n - y), List.mem_filter.mpr ⟨List.mem_append_right _ (List.mem_map.mpr ⟨n, h1, rfl⟩), h2⟩, ?_⟩
  show [x + 0, y + (n - y), q] = _
  rw [Int.add_zero, show y + (n - y) = n by omega]
/-- what unit steps come to, lines come to -/
theorem U_L (hR : okR R) (hb : okB b) (hq : 0 ≤ q ∧ q < 4) {sx sy : Int} (hs : std R b ⟨sx, sy, q⟩ = true) (mx : sx ∈ LX R b es) (my : sy ∈ LY R b es) {k : List Int} (h : Rch (nbU R b q) [sx, sy] k) :
    ∃ x y u v, k = [x, y] ∧ std R b ⟨x, y, q⟩ = true ∧ Pj (LX R b es) x u ∧ Pj (LY R b es) y v ∧ Rch (nbL R b es) [sx, sy, q] [u, v, q] := by
  have px := sortI_pw (lnX R b es)
  have py := sortI_pw (lnY R b es)
  induction h with
  | refl => exact ⟨sx, sy, sx, sy, rfl, hs, pj_self mx, pj_self my, .refl⟩
  | step _ hy ih =>
    rename_i k1 k2 _
    obtain ⟨x, y, u, v, rfl, h0, p, w, rc⟩ := ih
    have hk : k2 = [k2.getD 0 0, k2.getD 1 0] := by
      unfold nbU at hy
      have := (List.mem_filter.mp hy).1
      simp only [List.mem_cons, List.not_mem_nil, or_false] at this
      rcases this with rfl | rfl | rfl | rfl <;> rfl
    generalize k2.getD 0 0 = x2 at hk
    generalize k2.getD 1 0 = y2 at hk
    subst hk
    obtain ⟨hc, h2⟩ := mem_nbU.mp hy
    have ple := p.le
    have wle := w.le
    rcases hc with ⟨rfl, rfl⟩ | ⟨rfl, rfl⟩ | ⟨rfl, rfl⟩ | ⟨rfl, rfl⟩
    · by_cases hx : x + 1 ∈ LX R b es
      · refine ⟨_, _, x + 1, v, rfl, h2, pj_self hx, w, .step rc (nbL_x (adj_nxt px p.mem hx (by omega) fun m hm => ⟨by omega, fun z => p.gap m z.1 (by omega) hm⟩) (slide_x hR hb fun m hm => ?_))⟩
        have hm' : m ≤ x ∨ m = x + 1 := by omega
        rcases hm' with hm' | rfl
        · exact std_down hq (std_left hq h0 p (by omega) hm') w (Int.le_refl _) wle
        · exact std_down hq h2 w (Int.le_refl _) wle
      · exact ⟨_, _, u, v, rfl, h2, ⟨p.mem, by omega, fun m a1 a2 hm => by
          by_cases e : m = x + 1
          · exact hx (e ▸ hm)
          · exact p.gap m a1 (by omega) hm⟩, w, rc⟩
    · by_cases hx : x ∈ LX R b es
      · have eu := pj_one p (pj_self hx)
        subst eu
        obtain ⟨n, pn⟩ := pj_X (es := es) hb hq (u - 1 + frm b).toNat (u - 1) (by have := (std_range hb h2).1; omega) h2
        have nle := pn.le
        refine ⟨_, _, n, v, rfl, h2, pn, w, .step rc (nbL_x (adj_nxt px hx pn.mem (by omega) fun m hm => ⟨fun z => pn.gap m z.1 (by omega) hm, by omega⟩) (slide_x hR hb fun m hm => ?_))⟩
        have hm' : (n ≤ m ∧ m ≤ u - 1) ∨ m = u := by omega
        rcases hm' with hm' | rfl
        · exact std_down hq (std_left hq h2 pn hm'.1 hm'.2) w (Int.le_refl _) wle
        · exact std_down hq h0 w (Int.le_refl _) wle
      · have ne : u ≠ x := fun e => hx (e ▸ p.mem)
        exact ⟨_, _, u, v, rfl, h2, ⟨p.mem, by omega, fun m a1 a2 => p.gap m a1 (by omega)⟩, w, rc⟩
    · by_cases hx : y + 1 ∈ LY R b es
      · refine ⟨_, _, u, y + 1, rfl, h2, p, pj_self hx, .step rc (nbL_y (adj_nxt py w.mem hx (by omega) fun m hm => ⟨by omega, fun z => w.gap m z.1 (by omega) hm⟩) (slide_y hR hb fun m hm => ?_))⟩
        have hm' : m ≤ y ∨ m = y + 1 := by omega
        rcases hm' with hm' | rfl
        · exact std_left hq (std_down hq h0 w (by omega) hm') p (Int.le_refl _) ple
        · exact std_left hq h2 p (Int.le_refl _) ple
      · exact ⟨_, _, u, v, rfl, h2, p, ⟨w.mem, by omega, fun m a1 a2 hm => by
          by_cases e : m = y + 1
          · exact hx (e ▸ hm)
          · exact w.gap m a1 (by omega) hm⟩, rc⟩
    · by_cases hx : y ∈ LY R b es
      · have eu := pj_one w (pj_self hx)
        subst eu
        obtain ⟨n, pn⟩ := pj_Y (es := es) hb hq (v - 1 + frm b).toNat (v - 1) (by have := (std_range hb h2).2.2.1; omega) h2
        have nle := pn.le
        refine ⟨_, _, u, n, rfl, h2, p, pn, .step rc (nbL_y (adj_nxt py hx pn.mem (by omega) fun m hm => ⟨fun z => pn.gap m z.1 (by omega) hm, by omega⟩) (slide_y hR hb fun m hm => ?_))⟩
        have hm' : (n ≤ m ∧ m ≤ v - 1) ∨ m = v := by omega
        rcases hm' with hm' | rfl
        · exact std_left hq (std_down hq h2 pn hm'.1 hm'.2) p (Int.le_refl _) ple
        · exact std_left hq h0 p (Int.le_refl _) ple
      · have ne : v ≠ y := fun e => hx (e ▸ w.mem)
        exact ⟨_, _, u, v, rfl, h2, p, ⟨w.mem, by omega, fun m a1 a2 => w.gap m a1 (by omega)⟩, rc⟩
/-- and the other way about -/
theorem steps_x (hR : okR R) (hb : okB b) {sx sy x y n : Int} (h : Rch (nbU R b q) [sx, sy] [x, y]) (hs : sld R b ⟨x, y, q⟩ (n - x) 0 = true) : Rch (nbU R b q) [sx, sy] [n, y] := by
  rcases Int.le_total x n with hx | hx
  · have e1 : (1 : Int) * ((n - x).toNat : Nat) = n - x := by omega
    have e2 : (0 : Int) * ((n - x).toNat : Nat) = 0 := by omega
    have g := (sld_iff R hR b hb x y q 1 0 (by simp [dirs]) (n - x).toNat).mp (by rw [e1, e2]; exact hs)
    have go : ∀ j : Nat, j ≤ (n - x).toNat → Rch (nbU R b q) [sx, sy] [x + j, y] := fun j => by
      induction j with
      | zero => intro _; simpa using h
      | succ j ih =>
        intro hj
        refine .step (ih (by omega)) (mem_nbU.mpr ⟨.inl ⟨by omega, rfl⟩, ?_⟩)
        have := g (j + 1) hj
        have e3 : x + 1 * ((j + 1 : Nat) : Int) = x + ((j + 1 : Nat) : Int) := by omega
        have e4 : y + 0 * ((j + 1 : Nat) : Int) = y := by omega
        rwa [e3, e4] at this
    have := go (n - x).toNat (Nat.le_refl _)
    have e5 : x + ((n - x).toNat : Int) = n := by omega
    rwa [e5] at this
  · have e1 : (-1 : Int) * ((x - n).toNat : Nat) = n - x := by omega
    have e2 : (0 : Int) * ((x - n).toNat : Nat) = 0 := by omega
    have g := (sld_iff R hR b hb x y q (-1) 0 (by simp [dirs]) (x - n).toNat).mp (by rw [e1, e2]; exact hs)
    have go : ∀ j : Nat, j ≤ (x - n).toNat → Rch (nbU R b q) [sx, sy] [x - j, y] := fun j => by
      induction j with
      | zero => intro _; simpa using h
      | succ j ih =>
        intro hj
        refine .step (ih (by omega)) (mem_nbU.mpr ⟨.inr (.inl ⟨by omega, rfl⟩), ?_⟩)
        have := g (j + 1) hj
        have e3 : x + -1 * ((j + 1 : Nat) : Int) = x - ((j + 1 : Nat) : Int) := by omega
        have e4 : y + 0 * ((j + 1 : Nat) : Int) = y := by omega
        rwa [e3, e4] at this
    have := go (x - n).toNat (Nat.le_refl _)
    have e5 : x - ((x - n).toNat : Int) = n := by omega
    rwa [e5] at this
theorem steps_y (hR : okR R) (hb : okB b) {sx sy x y n : Int} (h : Rch (nbU R b q) [sx, sy] [x, y]) (hs : sld R b ⟨x, y, q⟩ 0 (n - y) = true) : Rch (nbU R b q) [sx, sy] [x, n] := by
  rcases Int.le_total y n with hx | hx
  · have e1 : (1 : Int) * ((n - y).toNat : Nat) = n - y := by omega
    have e2 : (0 : Int) * ((n - y).toNat : Nat) = 0 := by omega
    have g := (sld_iff R hR b hb x y q 0 1 (by simp [dirs]) (n - y).toNat).mp (by rw [e1, e2]; exact hs)
    have go : ∀ j : Nat, j ≤ (n - y).toNat → Rch (nbU R b q) [sx, sy] [x, y + j] := fun j => by
      induction j with
      | zero => intro _; simpa using h
      | succ j ih =>
        intro hj
        refine .step (ih (by omega)) (mem_nbU.mpr ⟨.inr (.inr (.inl ⟨rfl, by omega⟩)), ?_⟩)
        have := g (j + 1) hj
        have e3 : y + 1 * ((j + 1 : Nat) : Int) = y + ((j + 1 : Nat) : Int) := by omega
        have e4 : x + 0 * ((j + 1 : Nat) : Int) = x := by omega
        rwa [e3, e4] at this
    have := go (n - y).toNat (Nat.le_refl _)
    have e5 : y + ((n - y).toNat : Int) = n := by omega
    rwa [e5] at this
  · have e1 : (-1 : Int) * ((y - n).toNat : Nat) = n - y := by omega
    have e2 : (0 : Int) * ((y - n).toNat : Nat) = 0 := by omega
    have g := (sld_iff R hR b hb x y q 0 (-1) (by simp [dirs]) (y - n).toNat).mp (by rw [e1, e2]; exact hs)
    have go : ∀ j : Nat, j ≤ (y - n).toNat → Rch (nbU R b q) [sx, sy] [x, y - j] := fun j => by
      induction j with
      | zero => intro _; simpa using h
      | succ j ih =>
        intro hj
        refine .step (ih (by omega)) (mem_nbU.mpr ⟨.inr (.inr (.inr ⟨rfl, by omega⟩)), ?_⟩)
        have := g (j + 1) hj
        have e3 : y + -1 * ((j + 1 : Nat) : Int) = y - ((j + 1 : Nat) : Int) := by omega
        have e4 : x + 0 * ((j + 1 : Nat) : Int) = x := by omega
        rwa [e3, e4] at this
    have := go (y - n).toNat (Nat.le_refl _)
    have e5 : y - ((y - n).toNat : Int) = n := by omega
    rwa [e5] at this
theorem mem_nbL {x y : Int} {k : List Int} (h : k ∈ nbL R b es [x, y, q]) : (∃ n, n ∈ nxt (LX R b es) x ∧ sld R b ⟨x, y, q⟩ (n - x) 0 = true ∧ k = [n, y, q]) ∨ ∃ n, n ∈ nxt (LY R b es) y ∧ sld R b ⟨x, y, q⟩ 0 (n - y) = true ∧ k = [x, n, q] := by
  unfold nbL at h
  obtain ⟨p, hp, rfl⟩ := List.mem_map.mp h
  obtain ⟨h1, h2⟩ := List.mem_filter.mp hp
  unfold stL at h1
  rcases List.mem_append.mp h1 with h1 | h1
  · obtain ⟨n, hn, rfl⟩ := List.mem_map.mp h1
    refine .inl ⟨n, hn, h2, ?_⟩
    show [x + (n - x), y + 0, q] = _
    rw [Int.add_zero, show x + (n - x) = n by omega]
  · obtain ⟨n, hn, rfl⟩ := List.mem_map.mp h1
    refine .inr ⟨n, hn, h2, ?_⟩
    show [x + 0, y + (n - y), q] = _
    rw [Int.add_zero, show y + (n - y) = n by omega]
/-- all that lines come to -/
theorem L_U (hR : okR R) (hb : okB b) {sx sy : Int} (hs : std R b ⟨sx, sy, q⟩ = true) (mx : sx ∈ LX R b es) (my : sy ∈ LY R b es) {k : List Int} (h : Rch (nbL R b es) [sx, sy, q] k) :
    ∃ x y, k = [x, y, q] ∧ x ∈ LX R b es ∧ y ∈ LY R b es ∧ std R b ⟨x, y, q⟩ = true ∧ Rch (nbU R b q) [sx, sy] [x, y] := by
  induction h with
  | refl => exact ⟨sx, sy, rfl, mx, my, hs, .refl⟩
  | step _ hy ih =>
    obtain ⟨x, y, rfl, hx, hy', h0, rc⟩ := ih
    rcases mem_nbL hy with ⟨n, hn, hsl, rfl⟩ | ⟨n, hn, hsl, rfl⟩
    · have r2 := steps_x hR hb rc hsl
      refine ⟨n, y, rfl, nxt_sub hn, hy', ?_, r2⟩
      by_cases e : [n, y] = [sx, sy]
      · simp only [List.cons.injEq, and_true] at e
        rw [e.1, e.2]
        exact hs
      · cases r2 with
        | refl => exact absurd rfl e
        | step a c =>
          unfold nbU at c
          exact (List.mem_filter.mp c).2
    · have r2 := steps_y hR hb rc hsl
      refine ⟨x, n, rfl, hx, nxt_sub hn, ?_, r2⟩
      by_cases e : [x, n] = [sx, sy]
      · simp only [List.cons.injEq, and_true] at e
        rw [e.1, e.2]
        exact hs
      · cases r2 with
        | refl => exact absurd rfl e
        | step a c =>
          unfold nbU at c
          exact (List.mem_filter.mp c).2
theorem U_iff_L (hR : okR R) (hb : okB b) (hq : 0 ≤ q ∧ q < 4) {sx sy gx gy : Int} (hs : std R b ⟨sx, sy, q⟩ = true) (e1 : ⟨sx, sy, q⟩ ∈ es) (e2 : ⟨gx, gy, q⟩ ∈ es) : Rch (nbU R b q) [sx, sy] [gx, gy] ↔ Rch (nbL R b es) [sx, sy, q] [gx, gy, q] := by
  have mx : sx ∈ LX R b es := mem_LX.mpr (.inl ⟨_, e1, rfl⟩)
  have my : sy ∈ LY R b es := mem_LY.mpr (.inl ⟨_, e1, rfl⟩)
  have nx : gx ∈ LX R b es := mem_LX.mpr (.inl ⟨_, e2, rfl⟩)
  have ny : gy ∈ LY R b es := mem_LY.mpr (.inl ⟨_, e2, rfl⟩)
  constructor
  · intro h
    obtain ⟨x, y, u, v, e, _, p, w, rc⟩ := U_L (es := es) hR hb hq hs mx my h
    simp only [List.cons.injEq, and_true] at e
    obtain ⟨rfl, rfl⟩ := e
    rw [pj_one p (pj_self nx), pj_one w (pj_self ny)] at rc
    exact rc
  · intro h
    obtain ⟨x, y, e, _, _, _, rc⟩ := L_U hR hb hs mx my h
    simp only [List.cons.injEq, and_true] at e
    obtain ⟨rfl, rfl⟩ := e
    exact rc
end
end Fx
namespace Fx
open PySem PySem.Spec L2
/-! ### slides_to -/
theorem cut_nat {α : Type} (xs : List α) (i j : Nat) : cutL xs (some (i : Int)) (some (j : Int)) = (xs.drop (min i xs.length)).take (min j xs.length - min i xs.length) := by
  unfold cutL
  rw [HT.sIx_nat, HT.sIx_nat]
theorem nxt_cut (X : List Int) {x : Int} (hx : x ∈ X) : cutL X (some ((X.idxOf x - 1 : Nat) : Int)) (some ((X.idxOf x : Nat) : Int)) ++ cutL X (some ((X.idxOf x + 1 : Nat) : Int)) (some ((X.idxOf x + 2 : Nat) : Int)) = nxt X x := by
  have ha : X.idxOf x < X.length := List.idxOf_lt_length_of_mem hx
  unfold nxt
  generalize X.idxOf x = a at *
  rw [cut_nat, cut_nat]
  congr 1
  · rw [List.drop_take, Nat.min_eq_left (by omega), Nat.min_eq_left (by omega)]
  · by_cases h : a + 1 < X.length
    · rw [Nat.min_eq_left (by omega), Nat.min_eq_left (by omega)]
      congr 1
      omega
    · rw [show min (a + 1) X.length = X.length by omega, List.drop_length, List.drop_of_length_le (show X.length ≤ a + 1 by omega)]
      simp
theorem cut_map {α β : Type} (f : α → β) (xs : List α) (lo hi : Option Int) : cutL (xs.map f) lo hi = (cutL xs lo hi).map f := by
  unfold cutL
  rw [List.length_map, List.map_take, List.map_drop]
theorem nxt_len (X : List Int) (x : Int) : (nxt X x).length ≤ 2 := by
  unfold nxt
  rw [List.length_append, List.length_drop, List.length_take, List.length_take, List.length_drop]
  omega
theorem ownN {l : List (List Int)} {k : Nat} {h : List Int} (e : l[k]? = some h) : ixD (.list (l.map kD)) (.int (k : Nat)) = some (kD h) := by
  have hk : k < l.length := (List.getElem?_eq_some_iff.mp e).1
  show atI (l.map kD) (k : Nat) = _
  unfold atI ixN
  rw [if_pos (by omega), if_pos (by rw [List.length_map]; omega), Option.bind_some, Int.toNat_natCast, List.getElem?_map, e]
  rfl
theorem eqK_ev (k l : List Int) : eqD (kD k) (kD l) = some (.bool (decide (k = l))) := by
  unfold eqD
  rw [if_pos ⟨shaped_kD k, shaped_kD l⟩, eqv_kD]
theorem addAll_snoc {α : Type} [DecidableEq α] (o ts : List α) (t : α) : addAll o (ts ++ [t]) = if t ∈ addAll o ts then addAll o ts else addAll o ts ++ [t] := by
  unfold addAll
  rw [List.foldl_append, List.foldl_cons, List.foldl_nil]
theorem step_in {α β : Type} [DecidableEq α] (f : β → α) (p : β → Bool) (o : List α) (ts : List β) (t : β) (h : f t ∈ addAll o ((ts.filter p).map f)) : addAll o (((ts ++ [t]).filter p).map f) = addAll o ((ts.filter p).map f) := by
  rw [List.filter_append, List.map_append]
  by_cases hp : p t = true
  · rw [List.filter_cons, if_pos hp, List.filter_nil, List.map_cons, List.map_nil, addAll_snoc, if_pos h]
  · rw [List.filter_cons, if_neg hp, List.filter_nil, List.map_nil, List.append_nil]
theorem step_no {α β : Type} [DecidableEq α] (f : β → α) (p : β → Bool) (o : List α) (ts : List β) (t : β) (h : p t = false) : addAll o (((ts ++ [t]).filter p).map f) = addAll o ((ts.filter p).map f) := by
  rw [List.filter_append, List.map_append, List.filter_cons, if_neg (by rw [h]; exact Bool.false_ne_true), List.filter_nil, List.map_nil, List.append_nil]
theorem step_new {α β : Type} [DecidableEq α] (f : β → α) (p : β → Bool) (o : List α) (ts : List β) (t : β) (hp : p t = true) (h : f t ∉ addAll o ((ts.filter p).map f)) : addAll o (((ts ++ [t]).filter p).map f) = addAll o ((ts.filter p).map f) ++ [f t] := by
  rw [List.filter_append, List.map_append, List.filter_cons, if_pos hp, List.filter_nil, List.map_cons, List.map_nil, addAll_snoc, if_neg h]
abbrev pD (p : Int × Int) : D := .tuple [.int p.1, .int p.2]
section
variable (R : Rm) (b : List Rc) (s g : Sd)
def TS (o : List (List Int)) (k : Int) (c9 c10 c11 c12 c13 : C) : S := ⟨[.val (rmD R), .val (rcsD b), .val (sdD s), .val (sdD g), .own (.dict (entK o)), .own (.list (o.map kD)), .val (.int k), .val (.list ((LX R b [s, g]).map PyData.int)), .val (.list ((LY R b [s, g]).map PyData.int)), c9, c10, c11, c12, c13, .no], none⟩
theorem DO_ev {i : Nat} {f : Fe} {st : S} {k : List Int} {o : List (List Int)} (h : f st = some (kD k, st)) (h0 : st.ownY i = some (entK o)) (hne : ∀ l ∈ o, l ≠ []) (hk : k ≠ []) : eDO i notInY f st = some (.bool (!decide (k ∈ o)), st) := by
  unfold eDO
  rw [h, Option.bind_some]
  dsimp only
  rw [h0, Option.bind_some, notInY_ev hne hk]
  rfl
theorem DOin_ev {i : Nat} {f : Fe} {st : S} {k : List Int} {o : List (List Int)} (h : f st = some (kD k, st)) (h0 : st.ownY i = some (entK o)) (hne : ∀ l ∈ o, l ≠ []) (hk : k ≠ []) : eDO i inY f st = some (.bool (decide (k ∈ o)), st) := by
  unfold eDO
  rw [h, Option.bind_some]
  dsimp only
  rw [h0, Option.bind_some, inY_ev hne hk]
  rfl
end
end Fx
namespace Fx
open PySem PySem.Spec L2
def uni (R : Rm) (b : List Rc) (q : Int) : List (List Int) := (rng (-frm b) (R.w + frm b + 1)).flatMap fun x => (rng (-frm b) (R.h + frm b + 1)).map fun y => [x, y, q]
theorem uni_mem {R : Rm} {b : List Rc} {q x y : Int} (hb : okB b) (h : std R b ⟨x, y, q⟩ = true) : [x, y, q] ∈ uni R b q := by
  have r := std_range hb h
  exact List.mem_flatMap.mpr ⟨x, mem_rng.mpr (by omega), List.mem_map.mpr ⟨y, mem_rng.mpr (by omega), rfl⟩⟩
theorem std_okS {R : Rm} {b : List Rc} {q x y : Int} (hR : okR R) (hb : okB b) (hq : 0 ≤ q ∧ q < 4) (h : std R b ⟨x, y, q⟩ = true) : okS ⟨x, y, q⟩ := by
  have r := std_range hb h
  have f := frm_bd hb
  obtain ⟨a1, a2, a3, a4, _⟩ := id hR
  unfold okS
  dsimp only
  omega
end Fx

namespace Fx
open PySem PySem.Spec L2
/-! ### bodies grown -/
def gw (n : Int) (r : Rc) : Rc := ⟨r.a - n, r.b - n, r.c + n, r.d + n⟩
def grow (n : Int) (b : List Rc) : List Rc := b.map (gw n)
theorem quart_gw (n : Int) (r : Rc) : quart (gw n r) = gw n (quart r) := by
  unfold quart gw
  simp only [Rc.mk.injEq]
  refine ⟨by omega, trivial, by omega, trivial⟩
theorem turn_gw (n : Int) (b : List Rc) (q : Int) : turnB (grow n b) q = grow n (turnB b q) := by
  unfold turnB grow
  generalize rng 0 q = l
  induction l generalizing b with
  | nil => rfl
  | cons x l ih =>
    rw [List.foldl_cons, List.foldl_cons, ← ih]
    congr 1
    rw [List.map_map, List.map_map]
    exact List.map_congr_left fun r _ => quart_gw n r
theorem std_grow {R : Rm} {b : List Rc} {x y q n : Int} : std R (grow n b) ⟨x, y, q⟩ = true ↔ ∀ r ∈ turnB b q, fit R (gw n (shift x y r)) = true := by
  rw [std_say, turn_gw]
  have e : ∀ r : Rc, shift x y (gw n r) = gw n (shift x y r) := fun r => by
    unfold shift gw
    simp only [Rc.mk.injEq]
    omega
  constructor
  · intro h r hr
    rw [← e]
    exact h _ (List.mem_map.mpr ⟨r, hr, rfl⟩)
  · intro h r' hr'
    obtain ⟨r, hr, rfl⟩ := List.mem_map.mp hr'
    rw [e]
    exact h r hr
theorem grow0 (b : List Rc) : grow 0 b = b := by
  unfold grow
  have : gw 0 = id := by
    funext r
    unfold gw
    simp
  rw [this, List.map_id]
theorem gcomp_ev (b : List Rc) (n : Int) (hl : b.length ≤ 100000) : eComp (iterS (eVar 0)) (gNm 2) (eC (.bool true)) [2] (pEmit (eTup (aCons (eBin subD (eBin ixD (eVar 2) (eC (.int 0))) (eVar 1)) (aCons (eBin subD (eBin ixD (eVar 2) (eC (.int 1))) (eVar 1)) (aCons (eBin addD (eBin ixD (eVar 2) (eC (.int 2))) (eVar 1)) (aCons (eBin addD (eBin ixD (eVar 2) (eC (.int 3))) (eVar 1)) (aNil))))))) ⟨[.val (rcsD b), .val (.int n), .no], none⟩ = some (.list (b.map fun r => rcD (gw n r)), ⟨[.val (rcsD b), .val (.int n), .no], none⟩) := map_ev b rcD (fun r => rcD (gw n r)) rfl rfl rfl (fun r _ => ⟨_, rfl, rfl, rfl⟩) hl
/-! ### how much room there is -/
def mx2 (i j : Int) : Int := if j > i then j else i
def gapI (r s : Rc) : Int := mx2 (mx2 (mx2 (r.a - s.c) (s.a - r.c)) (mx2 (r.b - s.d) (s.b - r.d))) 0
def roomL (R : Rm) (b : List Rc) (s : Sd) : List Int := (plc b s).flatMap fun r => [r.a, r.b, R.w - r.c, R.h - r.d] ++ R.bl.map (gapI r)
def clr (R : Rm) (b : List Rc) (s : Sd) : Int := minI (roomL R b s)
theorem plc_mem {b : List Rc} {x y q : Int} {r : Rc} : r ∈ plc b ⟨x, y, q⟩ ↔ ∃ r0 ∈ turnB b q, r = shift x y r0 := by
  unfold plc
  rw [List.mem_map]
  constructor
  · rintro ⟨r0, h, rfl⟩; exact ⟨r0, h, rfl⟩
  · rintro ⟨r0, h, rfl⟩; exact ⟨r0, h, rfl⟩
theorem roomL_ne {R : Rm} {b : List Rc} (hb : b ≠ []) (s : Sd) : roomL R b s ≠ [] := by
  unfold roomL plc
  have := turn_ne hb s.t
  cases e : turnB b s.t with
  | nil => exact absurd e this
  | cons r l => simp
theorem clr_iff {R : Rm} {b : List Rc} (hb : b ≠ []) {x y q : Int} (hs : std R b ⟨x, y, q⟩ = true) {n : Int} (hn : 0 ≤ n) : n ≤ clr R b ⟨x, y, q⟩ ↔ std R (grow n b) ⟨x, y, q⟩ = true := by
  have m := minI_is (roomL_ne (R := R) hb ⟨x, y, q⟩)
  have all : n ≤ clr R b ⟨x, y, q⟩ ↔ ∀ v ∈ roomL R b ⟨x, y, q⟩, n ≤ v := ⟨fun h v hv => Int.le_trans h (m.2 v hv), fun h => h _ m.1⟩
  rw [all, std_grow]
  rw [std_say] at hs
  constructor
  · intro h r hr
    have f := fit_say.mp (hs r hr)
    have ent : ∀ v ∈ [(shift x y r).a, (shift x y r).b, R.w - (shift x y r).c, R.h - (shift x y r).d] ++ R.bl.map (gapI (shift x y r)), n ≤ v := fun v hv => h v (List.mem_flatMap.mpr ⟨shift x y r, plc_mem.mpr ⟨r, hr, rfl⟩, hv⟩)
    rw [fit_say]
    generalize shift x y r = r' at *
    have e1 := ent r'.a (by simp)
    have e2 := ent r'.b (by simp)
    have e3 := ent (R.w - r'.c) (by simp)
    have e4 := ent (R.h - r'.d) (by simp)
    unfold gw
    dsimp only
    refine ⟨by omega, fun s hs' z => ?_⟩
    have g := ent (gapI r' s) (List.mem_append_right _ (List.mem_map.mpr ⟨s, hs', rfl⟩))
    have f2 := f.2 s hs'
    unfold gapI mx2 at g
    by_cases h0 : n = 0
    · subst h0
      exact f2 (by omega)
    · (repeat' split at g) <;> omega
  · intro h v hv
    obtain ⟨r', hr', hv⟩ := List.mem_flatMap.mp hv
    obtain ⟨r, hr, rfl⟩ := plc_mem.mp hr'
    have f := fit_say.mp (h r hr)
    generalize shift x y r = r' at *
    unfold gw at f
    dsimp only at f
    obtain ⟨f1, f2⟩ := f
    rcases List.mem_append.mp hv with hv | hv
    · simp only [List.mem_cons, List.not_mem_nil, or_false] at hv
      rcases hv with rfl | rfl | rfl | rfl <;> omega
    · obtain ⟨s, hs', rfl⟩ := List.mem_map.mp hv
      have f3 := f2 s hs'
      unfold gapI mx2
      (repeat' split) <;> omega
theorem clr_nonneg {R : Rm} {b : List Rc} (hb : b ≠ []) {x y q : Int} (hs : std R b ⟨x, y, q⟩ = true) : 0 ≤ clr R b ⟨x, y, q⟩ := (clr_iff hb hs (Int.le_refl 0)).mpr (by rw [grow0]; exact hs)
end Fx
namespace Fx
open PySem PySem.Spec L2
/-! ### the six bodies -/
def six : List (List Rc) := [[⟨0, 0, 1, 1⟩], [⟨-1, -1, 1, 1⟩], [⟨0, 0, 2, 1⟩], [⟨-1, 0, 1, 1⟩], [⟨0, 0, 2, 1⟩, ⟨0, 0, 1, 2⟩], [⟨-1, 0, 0, 1⟩, ⟨1, 0, 2, 1⟩]]
theorem six_len : ∀ b ∈ six, ∀ n ∈ ([0, 1, 2, 3] : List Int), ((grow n b).flatMap sqL).length ≤ 4000 ∧ (dd ((grow n b).flatMap sqL)).length ≤ 76 := by decide +kernel
theorem six_ok {b : List Rc} (hb : b ∈ six) {n : Int} (h : 0 ≤ n ∧ n ≤ 6) : okB (grow n b) := by
  simp only [six, List.mem_cons, List.not_mem_nil, or_false] at hb
  rcases hb with rfl | rfl | rfl | rfl | rfl | rfl <;>
    (refine ⟨by simp [grow], by simp [grow], fun r hr => ?_⟩
     simp only [grow, List.map_cons, List.map_nil, List.mem_cons, List.not_mem_nil, or_false] at hr
     first
      | (rcases hr with rfl | rfl <;> (unfold gw; dsimp only; omega))
      | (subst hr; unfold gw; dsimp only; omega))
theorem six_okB {b : List Rc} (hb : b ∈ six) : okB b := by
  have := six_ok hb (n := 0) (by omega)
  rwa [grow0] at this
section
variable {R : Rm} {os : List (List Int)} {b : List Rc}
theorem ok_ne (hb : okB b) : b ≠ [] := fun e => by have := hb.1; rw [e] at this; simp at this
theorem clr_le (hb : okB b) {x y q : Int} (hw : R.w ≤ 6) (hs : std R b ⟨x, y, q⟩ = true) : clr R b ⟨x, y, q⟩ ≤ 2 := by
  have hne := ok_ne hb
  have h0 := clr_nonneg hne hs
  have h := std_grow.mp ((clr_iff hne hs h0).mp (Int.le_refl _))
  obtain ⟨r, hr⟩ := List.exists_mem_of_ne_nil _ (turn_ne hne q)
  have p := turn_prop hb q r hr
  have := fit_bd (h r hr)
  unfold gw shift at this
  unfold prop at p
  dsimp only at this
  omega
end
/-! ### rows of standings -/
def SL (R : Rm) (b : List Rc) (n : Int) (s s' : Sd) : Prop := sld R (grow n b) s (s'.x - s.x) (s'.y - s.y) = true
def StepOk (R : Rm) (b : List Rc) (s s' : Sd) : Prop := ((s'.x - s.x = 0 ∧ s'.y - s.y ≠ 0) ∨ (s'.x - s.x ≠ 0 ∧ s'.y - s.y = 0)) ∧ sld R b s (s'.x - s.x) (s'.y - s.y) = true
structure Way (R : Rm) (b : List Rc) (q : Int) (row : List Sd) : Prop where
  ne : row ≠ []
  ok : ∀ s ∈ row, okS s ∧ std R b s = true ∧ s.t = q
  st : ∀ (i : Nat) (s s' : Sd), row[i]? = some s → row[i + 1]? = some s' → StepOk R b s s'
  ln : row.length ≤ 1000
def Aw (R : Rm) (b : List Rc) (n : Int) (row : List Sd) (m : Nat) : Prop := (∀ s, row[0]? = some s → std R (grow n b) s = true) ∧ ∀ (i : Nat) (s s' : Sd), i < m → row[i]? = some s → row[i + 1]? = some s' → SL R b n s s'
theorem sld_mono {R : Rm} {b : List Rc} {s : Sd} {x y m n : Int} (h : m ≤ n) (hs : sld R (grow n b) s x y = true) : sld R (grow m b) s x y = true := by
  obtain ⟨sx, sy, q⟩ := s
  unfold sld at *
  rw [List.all_eq_true] at *
  intro r hr
  rw [plc_mem, turn_gw] at hr
  obtain ⟨r0, hr0, rfl⟩ := hr
  obtain ⟨r1, hr1, rfl⟩ := List.mem_map.mp hr0
  have := hs (shift sx sy (gw n r1)) (plc_mem.mpr ⟨gw n r1, by rw [turn_gw]; exact List.mem_map.mpr ⟨r1, hr1, rfl⟩, rfl⟩)
  rw [fit_say] at *
  unfold ext shift gw at *
  dsimp only at *
  obtain ⟨a, c⟩ := this
  refine ⟨by omega, fun t ht z => c t ht (by omega)⟩
theorem ixS {row : List Sd} {i : Nat} {s : Sd} (e : row[i]? = some s) : ixD (.list (row.map sdD)) (.int (i : Nat)) = some (sdD s) := by
  show atI (row.map sdD) (i : Nat) = _
  have hl : i < row.length := by
    rw [List.getElem?_eq_some_iff] at e
    exact e.1
  unfold atI ixN
  rw [if_pos (by omega), if_pos (by rw [List.length_map]; omega), Option.bind_some, List.getElem?_map, Int.toNat_natCast, e]
  rfl
theorem eqZ_ev (a b : Int) : eqD (.int a) (.int b) = some (.bool (a == b)) := by
  show (if _ ∧ _ then some (PyData.bool (a == b)) else none) = _
  rw [if_pos ⟨rfl, rfl⟩]
theorem neZ_ev2 (a b : Int) : neD (.int a) (.int b) = some (.bool (!(a == b))) := by
  show (if _ ∧ _ then some (PyData.bool (!(a == b))) else none) = _
  rw [if_pos ⟨rfl, rfl⟩]
theorem eq_nilS (row : List Sd) (h : row ≠ []) : eqD (.list (row.map sdD)) (.list []) = some (.bool false) := by
  have e : row.map sdD = (row.map fun s => [s.x, s.y, s.t]).map kD := by rw [List.map_map]; rfl
  rw [e]
  unfold eqD
  rw [if_pos ⟨shaped_rows _, by decide +kernel⟩]
  cases row with
  | nil => exact absurd rfl h
  | cons s r => rfl
end Fx

namespace Fx
open PySem PySem.Spec L2
def uniU (R : Rm) (b : List Rc) : List (List Int) := (rng (-frm b) (R.w + frm b + 1)).flatMap fun x => (rng (-frm b) (R.h + frm b + 1)).map fun y => [x, y]
theorem U_form {R : Rm} {b : List Rc} {q sx sy : Int} (hs : std R b ⟨sx, sy, q⟩ = true) {k : List Int} (h : Rch (nbU R b q) [sx, sy] k) : ∃ x y, k = [x, y] ∧ std R b ⟨x, y, q⟩ = true := by
  cases h with
  | refl => exact ⟨sx, sy, rfl, hs⟩
  | step a c =>
    unfold nbU at c
    obtain ⟨c1, c2⟩ := List.mem_filter.mp c
    simp only [List.mem_cons, List.not_mem_nil, or_false] at c1
    rcases c1 with rfl | rfl | rfl | rfl <;> exact ⟨_, _, rfl, c2⟩
theorem loop_brk {α : Type} {g : Fg} {F : Fs} (enc : α → D) (I : List α → S → Prop) (P : S → Prop) {pre suf : List α} {x : α} (hs : ∀ p1 y p2 s, pre = p1 ++ y :: p2 → I p1 s → ∃ s1 s2, g (enc y) s = some s1 ∧ F s1 = some (.next, s2) ∧ I (p1 ++ [y]) s2) (hx : ∀ s, I pre s → ∃ s1 s2, g (enc x) s = some s1 ∧ F s1 = some (.brk, s2) ∧ P s2) :
    ∀ (rest done : List α) {s : S}, pre = done ++ rest → I done s → ∃ s', loopF g F ((rest ++ x :: suf).map enc) s = some (.next, s') ∧ P s'
  | [], done, s, e, hI => by
    rw [List.append_nil] at e
    subst e
    obtain ⟨s1, s2, h1, h2, h3⟩ := hx s hI
    refine ⟨s2, ?_, h3⟩
    rw [List.nil_append, List.map_cons]
    unfold loopF
    rw [h1, Option.bind_some, h2]
  | y :: rest, done, s, e, hI => by
    obtain ⟨s1, s2, h1, h2, h3⟩ := hs done y rest s e hI
    obtain ⟨s', h4, h5⟩ := loop_brk enc I P hs hx rest (done ++ [y]) (by rw [e]; simp) h3
    refine ⟨s', ?_, h5⟩
    rw [List.cons_append, List.map_cons]
    unfold loopF
    rw [h1, Option.bind_some, h2]
    exact h4
theorem Rch.trans' {α : Type} {nb : α → List α} {a c d : α} (h1 : Rch nb a c) (h2 : Rch nb c d) : Rch nb a d := by
  induction h2 with
  | refl => exact h1
  | step _ hy ih => exact .step ih hy
theorem U_sym {R : Rm} {b : List Rc} {q sx sy : Int} (hs : std R b ⟨sx, sy, q⟩ = true) {k : List Int} (h : Rch (nbU R b q) [sx, sy] k) : Rch (nbU R b q) k [sx, sy] := by
  induction h with
  | refl => exact .refl
  | step h1 hy ih =>
    obtain ⟨x, y, rfl, h3⟩ := U_form hs h1
    obtain ⟨u, v, rfl, h4⟩ := U_form hs (.step h1 hy)
    obtain ⟨hc, _⟩ := mem_nbU.mp hy
    have : Rch (nbU R b q) [u, v] [x, y] := .step .refl (mem_nbU.mpr ⟨by omega, h3⟩)
    exact this.trans' ih
theorem uni_small {R : Rm} {b : List Rc} (hb : okB b) (hR : okR R) (hw : R.w ≤ 9) (hh : R.h ≤ 7) (q : Int) : (uni R b q).length < 1000 ∧ (uniU R b).length < 1000 := by
  obtain ⟨f0, f8⟩ := frm_bd hb
  obtain ⟨a1, a2, a3, a4, _⟩ := id hR
  have n1 : (rng (-frm b) (R.w + frm b + 1)).length ≤ 26 := by rw [rng_len]; omega
  have n2 : (rng (-frm b) (R.h + frm b + 1)).length ≤ 24 := by rw [rng_len]; omega
  constructor
  · have := flat_len (f := fun x => (rng (-frm b) (R.h + frm b + 1)).map fun y => [x, y, q]) (m := 24) (xs := rng (-frm b) (R.w + frm b + 1)) fun x _ => by rw [List.length_map]; exact n2
    unfold uni
    omega
  · have := flat_len (f := fun x => (rng (-frm b) (R.h + frm b + 1)).map fun y => [x, y]) (m := 24) (xs := rng (-frm b) (R.w + frm b + 1)) fun x _ => by rw [List.length_map]; exact n2
    unfold uniU
    omega
theorem rng_idx {lo hi x : Int} {pre suf : List Int} (e : rng lo hi = pre ++ x :: suf) : x = lo + pre.length := by
  have h : (rng lo hi)[pre.length]? = some x := by rw [e]; simp
  unfold rng at h
  rw [List.getElem?_map, Option.map_eq_some_iff] at h
  obtain ⟨k, hk, rfl⟩ := h
  obtain ⟨_, hk2⟩ := List.getElem?_eq_some_iff.mp hk
  rw [List.getElem_range] at hk2
  rw [hk2]
theorem min_le {i j : Int} : (if j < i then j else i) ≤ i ∧ (if j < i then j else i) ≤ j ∧ ∀ n, n ≤ (if j < i then j else i) ↔ n ≤ i ∧ n ≤ j := by
  split <;> refine ⟨by omega, by omega, fun n => by omega⟩
theorem mem_allS {R : Rm} {b : List Rc} {s : Sd} (h : s ∈ allS R b) : std R b s = true ∧ 0 ≤ s.t ∧ s.t < 4 := by
  unfold allS at h
  obtain ⟨x, _, h⟩ := List.mem_flatMap.mp h
  obtain ⟨y, _, h⟩ := List.mem_flatMap.mp h
  unfold lineS at h
  obtain ⟨q, hq, rfl⟩ := List.mem_map.mp h
  obtain ⟨h1, h2⟩ := List.mem_filter.mp hq
  exact ⟨h2, (mem_rng.mp h1).1, (mem_rng.mp h1).2⟩
theorem allS_len {R : Rm} {b : List Rc} (hR : okR R) (hb : okB b) : (allS R b).length ≤ 23716 := by
  obtain ⟨f0, f8⟩ := frm_bd hb
  obtain ⟨w1, w2, w3, w4, w5, _⟩ := id hR
  have n1 : (rng (-frm b) (R.w + frm b + 1)).length ≤ 77 := by rw [rng_len]; omega
  have n2 : (rng (-frm b) (R.h + frm b + 1)).length ≤ 77 := by rw [rng_len]; omega
  have := flat_len (f := fun x => (rng (-frm b) (R.h + frm b + 1)).flatMap fun y => lineS R b x y) (m := 308) (xs := rng (-frm b) (R.w + frm b + 1)) fun x _ => by
    have := flat_len (f := fun y => lineS R b x y) (m := 4) (xs := rng (-frm b) (R.h + frm b + 1)) fun y _ => lineS_len R b x y
    omega
  unfold allS
  omega
theorem ixLast (pre : List Sd) (s : Sd) : ixD (.list ((pre ++ [s]).map sdD)) (.int (-1)) = some (sdD s) := by
  show atI ((pre ++ [s]).map sdD) (-1) = _
  unfold atI ixN
  rw [if_neg (by decide), if_pos (by simp; omega)]
  rw [Option.bind_some, List.getElem?_map, List.length_map, List.length_append, List.length_singleton]
  have e : (-1 + ((pre.length + 1 : Nat) : Int)).toNat = pre.length := by omega
  rw [e]
  simp
theorem IxO_ev {i : Nat} {f : Fe} {s s1 : S} {y z : D} {ds0 ds : List D} (h0 : s.ownL i = some ds0) (h : f s = some (y, s1)) (h1 : s1.ownL i = some ds) (h2 : ixD (.list ds) y = some z) : eIxO i f s = some (z, s1) := by
  unfold eIxO
  rw [h0, Option.bind_some, h, Option.bind_some]
  dsimp only
  rw [h1, Option.bind_some, h2]
  rfl
theorem eqS_nil (row : List Sd) : eqD (.list (row.map sdD)) (.list []) = some (.bool (decide (row = []))) := by
  cases row with
  | nil => rfl
  | cons s r => rw [eq_nilS (s :: r) (List.cons_ne_nil _ _)]; simp
end Fx

namespace Fx
open PySem PySem.Spec L2
/-! counting on a line -/
theorem rng_cut {lo m hi : Int} (h1 : lo ≤ m) (h2 : m ≤ hi) : rng lo hi = rng lo m ++ rng m hi := by
  obtain ⟨a, ha⟩ := Int.eq_ofNat_of_zero_le (a := m - lo) (by omega)
  obtain ⟨b, hb⟩ := Int.eq_ofNat_of_zero_le (a := hi - m) (by omega)
  have e1 : (hi - lo).toNat = a + b := by omega
  have e2 : (m - lo).toNat = a := by omega
  have e3 : (hi - m).toNat = b := by omega
  unfold rng
  rw [e1, e2, e3, List.range_add, List.map_append, List.map_map]
  congr 1
  refine List.map_congr_left fun k _ => ?_
  simp only [Function.comp_apply, Int.natCast_add]
  omega
def cnt (lo hi : Int) (p : Int → Bool) : Int := (((rng lo hi).filter p).length : Nat)
theorem filter_or {α : Type} (p q : α → Bool) : ∀ l : List α, (l.filter fun x => p x || q x).length = (l.filter p).length + (l.filter fun x => q x && !p x).length
  | [] => rfl
  | x :: l => by
    have ih := filter_or p q l
    rw [List.filter_cons, List.filter_cons, List.filter_cons]
    cases p x <;> cases q x <;> simp [ih] <;> omega
theorem cnt_or (lo hi : Int) (p q : Int → Bool) : cnt lo hi (fun y => p y || q y) = cnt lo hi p + cnt lo hi (fun y => q y && !p y) := by
  unfold cnt
  rw [filter_or]
  omega
theorem cnt_congr {lo hi : Int} {p q : Int → Bool} (h : ∀ y, lo ≤ y → y < hi → p y = q y) : cnt lo hi p = cnt lo hi q := by
  unfold cnt
  rw [List.filter_congr fun y hy => h y (mem_rng.mp hy).1 (mem_rng.mp hy).2]
theorem cnt_none {lo hi : Int} {p : Int → Bool} (h : ∀ y, lo ≤ y → y < hi → p y = false) : cnt lo hi p = 0 := by
  unfold cnt
  rw [List.filter_eq_nil_iff.mpr fun y hy => by rw [h y (mem_rng.mp hy).1 (mem_rng.mp hy).2]; exact Bool.false_ne_true]
  rfl
theorem cnt_iv {lo hi s e : Int} (h1 : lo ≤ s) (h2 : s ≤ e) (h3 : e ≤ hi) : cnt lo hi (fun y => decide (s ≤ y ∧ y < e)) = e - s := by
  unfold cnt
  have a1 : (rng lo s).filter (fun y => decide (s ≤ y ∧ y < e)) = [] := List.filter_eq_nil_iff.mpr fun y hy => by rw [mem_rng] at hy; simp; omega
  have a2 : (rng s e).filter (fun y => decide (s ≤ y ∧ y < e)) = rng s e := List.filter_eq_self.mpr fun y hy => by rw [mem_rng] at hy; simp; omega
  have a3 : (rng e hi).filter (fun y => decide (s ≤ y ∧ y < e)) = [] := List.filter_eq_nil_iff.mpr fun y hy => by rw [mem_rng] at hy; simp; omega
  rw [rng_cut h1 (Int.le_trans h2 h3), rng_cut h2 h3, List.filter_append, List.filter_append, a1, a2, a3, List.nil_append, List.append_nil, rng_len]
  omega
/-! the sweep over spans, sorted by their starts -/
def inS (L : List (Int × Int)) (y : Int) : Bool := L.any fun s => decide (s.1 ≤ y ∧ y < s.2)
def rchOk (L : List (Int × Int)) : Option Int → Prop
  | none => L = []
  | some r => (∃ s ∈ L, s.2 = r) ∧ ∀ s ∈ L, s.2 ≤ r
def startOf (l : Int) : Option Int → Int
  | none => l
  | some r => max l r
def nextR (h : Int) : Option Int → Int
  | none => h
  | some r => max r h
theorem rch_next {L : List (Int × Int)} {o : Option Int} {l h : Int} (hr : rchOk L o) : rchOk (L ++ [(l, h)]) (some (nextR h o)) := by
  cases o with
  | none =>
    have : L = [] := hr
    subst this
    exact ⟨⟨(l, h), by simp, rfl⟩, fun s hs => by simp at hs; rw [hs]; exact Int.le_refl _⟩
  | some r =>
    obtain ⟨⟨s, hs, e⟩, hm⟩ := hr
    refine ⟨?_, fun q hq => ?_⟩
    · by_cases c : r ≤ h
      · exact ⟨(l, h), by simp, by show h = max r h; omega⟩
      · exact ⟨s, by simp [hs], by show s.2 = max r h; omega⟩
    · rw [List.mem_append, List.mem_singleton] at hq
      show q.2 ≤ max r h
      rcases hq with hq | rfl
      · have := hm q hq; omega
      · show h ≤ max r h
        omega
theorem sweep_step {lo hi l h : Int} {L : List (Int × Int)} {o : Option Int} (hr : rchOk L o) (hs : ∀ s ∈ L, s.1 ≤ l) (h1 : lo ≤ l) (h3 : h ≤ hi) :
    cnt lo hi (inS (L ++ [(l, h)])) = cnt lo hi (inS L) + (if startOf l o < h then h - startOf l o else 0) := by
  have e : cnt lo hi (inS (L ++ [(l, h)])) = cnt lo hi (fun y => inS L y || decide (l ≤ y ∧ y < h)) := cnt_congr fun y _ _ => by unfold inS; rw [List.any_append]; simp
  rw [e, cnt_or]
  congr 1
  have hst : l ≤ startOf l o := by cases o <;> unfold startOf <;> simp <;> omega
  have key : ∀ y, (decide (l ≤ y ∧ y < h) && !inS L y) = decide (startOf l o ≤ y ∧ y < h) := by
    intro y
    by_cases c : l ≤ y
    · have k2 : inS L y = true ↔ y < startOf l o := by
        unfold inS
        rw [List.any_eq_true]
        cases o with
        | none =>
          have : L = [] := hr
          subst this
          unfold startOf
          simp
          omega
        | some r =>
          obtain ⟨⟨s, hs', e⟩, hm⟩ := hr
          have es : startOf l (some r) = max l r := rfl
          rw [es]
          constructor
          · rintro ⟨q, hq, hy⟩
            have := hm q hq
            simp at hy
            omega
          · intro hy
            have := hs s hs'
            exact ⟨s, hs', by simp; omega⟩
      cases q : inS L y with
      | true =>
        have := k2.mp q
        simp
        omega
      | false =>
        have : ¬ y < startOf l o := fun z => by rw [k2.mpr z] at q; cases q
        rw [Bool.not_false, Bool.and_true]
        exact decide_eq_decide.mpr (by omega)
    · have a1 : decide (l ≤ y ∧ y < h) = false := by simp; omega
      have a2 : decide (startOf l o ≤ y ∧ y < h) = false := by simp; omega
      rw [a1, a2]
      rfl
  rw [cnt_congr fun y _ _ => key y]
  split
  · exact cnt_iv (by omega) (by omega) h3
  · exact cnt_none fun y _ _ => by simp; omega
/-! sums -/
def smI (f : Int → Int) : List Int → Int
  | [] => 0
  | x :: l => f x + smI f l
theorem smI_app (f : Int → Int) : ∀ l m : List Int, smI f (l ++ m) = smI f l + smI f m
  | [], m => by simp [smI]
  | x :: l, m => by rw [List.cons_append]; simp only [smI]; rw [smI_app f l m]; omega
theorem smI_const {f : Int → Int} {c : Int} : ∀ {l : List Int}, (∀ x ∈ l, f x = c) → smI f l = l.length * c
  | [], _ => by simp [smI]
  | x :: l, h => by
    simp only [smI]
    rw [h x List.mem_cons_self, smI_const fun y hy => h y (List.mem_cons_of_mem _ hy), List.length_cons, Int.natCast_add, Int.add_mul]
    simp
    omega
theorem len_flat {β : Type} {g : Int → List β} {f : Int → Int} (h : ∀ x, ((g x).length : Int) = f x) : ∀ l : List Int, ((l.flatMap g).length : Int) = smI f l
  | [] => rfl
  | x :: l => by
    rw [List.flatMap_cons, List.length_append, Int.natCast_add, h x, len_flat h l]
    rfl
end Fx

namespace Fx
open PySem PySem.Spec L2
/-! the spans of a stripe, sorted -/
theorem leR_fst {a b c d : Int} (h : leR [a, b] [c, d] = true) : a ≤ c := by
  unfold leR at h
  split at h
  · omega
  · rw [decide_eq_true_eq] at h
    omega
theorem sorted_spans (ps : List (Int × Int)) : ∃ L : List (Int × Int), sortedD [.list (ps.map fun p => kD [p.1, p.2])] = some (.list (L.map fun p => kD [p.1, p.2])) ∧ L.Pairwise (fun p q => p.1 ≤ q.1) ∧ ∀ p, p ∈ L ↔ p ∈ ps := by
  have so := sortedD_ev (ks := ps.map fun p => [p.1, p.2]) fun k hk => by
    obtain ⟨p, _, rfl⟩ := List.mem_map.mp hk
    exact fun z => nomatch z
  obtain ⟨L, e⟩ := rows_pairs (cs := (ps.map fun p => [p.1, p.2]).mergeSort leR) fun k hk => by
    obtain ⟨p, _, rfl⟩ := List.mem_map.mp (List.mem_mergeSort.mp hk)
    exact ⟨_, _, rfl⟩
  rw [List.map_map] at so
  refine ⟨L, ?_, ?_, fun p => ?_⟩
  · rw [e, List.map_map] at so
    exact so
  · have pw := List.pairwise_mergeSort (le := leR) leR_tr leR_tot (ps.map fun p => [p.1, p.2])
    rw [e, List.pairwise_map] at pw
    exact pw.imp fun h => leR_fst h
  · rw [← mem_pairs (ps := L) (x := p.1) (y := p.2), ← e, List.mem_mergeSort, mem_pairs]
/-! the evaluation -/
def CV (c xs : D) (tot i : Int) (c4 c5 c6 c7 c8 : C) : S := ⟨[.val c, .val xs, .val (.int tot), .val (.int i), c4, c5, c6, c7, c8, .no, .no], none⟩
def rcE : Option Int → D
  | none => .none
  | some r => .int r
def spanB : Fs := (sSeq (sSet 8 (eIf (eBin isND (eVar 5) (eC .none)) (eVar 6) (eCall max2D (aCons (eVar 6) (aCons (eVar 5) (aNil))))))
  (sSeq (sIf (eBin gtD (eVar 7) (eVar 8))
  (sAug 2 addI (eBin mulD (eBin subD (eVar 7) (eVar 8)) (eBin subD (eBin ixD (eVar 1) (eBin addD (eVar 3) (eC (.int 1)))) (eBin ixD (eVar 1) (eVar 3)))))
  (sNext))
  (sSet 5 (eIf (eBin isND (eVar 5) (eC .none)) (eVar 7) (eCall max2D (aCons (eVar 5) (aCons (eVar 7) (aNil))))))))
theorem max2I (a b : Int) : (if b > a then b else a) = max a b := by
  split <;> omega
theorem span_ev {c : D} {xs : List Int} {tot x0 x1 l h : Int} {k : Nat} {c4 c8 : C} {o : Option Int} (h0 : ixD (.list (xs.map PyData.int)) (.int (k : Nat)) = some (.int x0)) (h1 : ixD (.list (xs.map PyData.int)) (.int ((k : Nat) + 1)) = some (.int x1)) (hw : -(2 ^ 64) < x1 - x0 ∧ x1 - x0 < 2 ^ 64) :
    spanB (CV c (.list (xs.map PyData.int)) tot (k : Nat) c4 (.val (rcE o)) (.val (.int l)) (.val (.int h)) c8) = some (.next, CV c (.list (xs.map PyData.int)) (tot + if startOf l o < h then (h - startOf l o) * (x1 - x0) else 0) (k : Nat) c4 (.val (.int (nextR h o))) (.val (.int l)) (.val (.int h)) (.val (.int (startOf l o)))) := by
  refine sSeq_ev (s1 := CV c (.list (xs.map PyData.int)) tot (k : Nat) c4 (.val (rcE o)) (.val (.int l)) (.val (.int h)) (.val (.int (startOf l o)))) ?_ ?_
  · refine sSet_ev (s1 := CV c (.list (xs.map PyData.int)) tot (k : Nat) c4 (.val (rcE o)) (.val (.int l)) (.val (.int h)) c8) ?_
    cases o with
    | none => rfl
    | some r =>
      show some (PyData.int (if r > l then r else l), _) = some (PyData.int (max l r), _)
      rw [max2I]
  · refine sSeq_ev (s1 := CV c (.list (xs.map PyData.int)) (tot + if startOf l o < h then (h - startOf l o) * (x1 - x0) else 0) (k : Nat) c4 (.val (rcE o)) (.val (.int l)) (.val (.int h)) (.val (.int (startOf l o)))) ?_ ?_
    · have g : (eBin gtD (eVar 7) (eVar 8)) (CV c (.list (xs.map PyData.int)) tot (k : Nat) c4 (.val (rcE o)) (.val (.int l)) (.val (.int h)) (.val (.int (startOf l o)))) = some (.bool (decide (h > startOf l o)), CV c (.list (xs.map PyData.int)) tot (k : Nat) c4 (.val (rcE o)) (.val (.int l)) (.val (.int h)) (.val (.int (startOf l o)))) := rfl
      by_cases q : startOf l o < h
      · rw [if_pos q]
        rw [decide_eq_true q] at g
        refine sIf_t g ?_
        have m : (eBin mulD (eBin subD (eVar 7) (eVar 8)) (eBin subD (eBin ixD (eVar 1) (eBin addD (eVar 3) (eC (.int 1)))) (eBin ixD (eVar 1) (eVar 3)))) (CV c (.list (xs.map PyData.int)) tot (k : Nat) c4 (.val (rcE o)) (.val (.int l)) (.val (.int h)) (.val (.int (startOf l o)))) = some (.int ((h - startOf l o) * (x1 - x0)), CV c (.list (xs.map PyData.int)) tot (k : Nat) c4 (.val (rcE o)) (.val (.int l)) (.val (.int h)) (.val (.int (startOf l o)))) :=
          eBin_ev (x := .int (h - startOf l o)) (y := .int (x1 - x0)) rfl (eBin_ev (x := .int x1) (y := .int x0) (eBin_ev (x := .list (xs.map PyData.int)) (y := .int ((k : Nat) + 1)) rfl rfl h1) (eBin_ev (x := .list (xs.map PyData.int)) (y := .int (k : Nat)) rfl rfl h0) rfl) (mulD_ev (.inr hw))
        unfold sAug
        rw [m]
        rfl
      · rw [if_neg q, Int.add_zero]
        rw [decide_eq_false q] at g
        exact sIf_f g rfl
    · refine sSet_ev (s1 := CV c (.list (xs.map PyData.int)) (tot + if startOf l o < h then (h - startOf l o) * (x1 - x0) else 0) (k : Nat) c4 (.val (rcE o)) (.val (.int l)) (.val (.int h)) (.val (.int (startOf l o)))) ?_
      cases o with
      | none => rfl
      | some r =>
        show some (PyData.int (if h > r then h else r), _) = some (PyData.int (max r h), _)
        rw [max2I]
theorem spans_ev {c : D} {xs : List Int} {tot x0 x1 lo hi : Int} {k : Nat} {c6 c7 c8 : C} (L : List (Int × Int)) (pw : L.Pairwise (fun p q => p.1 ≤ q.1)) (hL : ∀ p ∈ L, lo ≤ p.1 ∧ p.2 ≤ hi) (h0 : ixD (.list (xs.map PyData.int)) (.int (k : Nat)) = some (.int x0)) (h1 : ixD (.list (xs.map PyData.int)) (.int ((k : Nat) + 1)) = some (.int x1)) (hw : -(2 ^ 64) < x1 - x0 ∧ x1 - x0 < 2 ^ 64) :
    ∃ s', sFor (iterS (eVar 4)) (gTp 2 (gsCons (gNm 6) (gsCons (gNm 7) (gsNil)))) spanB (CV c (.list (xs.map PyData.int)) tot (k : Nat) (.val (.list (L.map fun p => kD [p.1, p.2]))) (.val .none) c6 c7 c8) = some (.next, s') ∧ ∃ c5 c6 c7 c8, s' = CV c (.list (xs.map PyData.int)) (tot + cnt lo hi (inS L) * (x1 - x0)) (k : Nat) (.val (.list (L.map fun p => kD [p.1, p.2]))) c5 c6 c7 c8 := by
  obtain ⟨s', e, o, c6, c7, c8, hr, rfl⟩ := for_pre (fi := iterS (eVar 4)) (g := gTp 2 (gsCons (gNm 6) (gsCons (gNm 7) (gsNil)))) (F := spanB) (s := CV c (.list (xs.map PyData.int)) tot (k : Nat) (.val (.list (L.map fun p => kD [p.1, p.2]))) (.val .none) c6 c7 c8) L (fun p => kD [p.1, p.2]) (fun pre s => ∃ (o : Option Int) (c6 c7 c8 : C), rchOk pre o ∧ s = CV c (.list (xs.map PyData.int)) (tot + cnt lo hi (inS pre) * (x1 - x0)) (k : Nat) (.val (.list (L.map fun p => kD [p.1, p.2]))) (.val (rcE o)) c6 c7 c8) rfl ⟨none, c6, c7, c8, rfl, by
      have z : cnt lo hi (inS []) = 0 := cnt_none fun y _ _ => rfl
      rw [z, Int.zero_mul, Int.add_zero]
      rfl⟩ (by
    rintro pre ⟨l, h⟩ suf s hall ⟨o, c6, c7, c8, hr, rfl⟩
    have hp : ∀ s ∈ pre, s.1 ≤ l := fun s hs => by
      rw [hall, List.pairwise_append] at pw
      exact pw.2.2 s hs (l, h) List.mem_cons_self
    have hb := hL (l, h) (by rw [hall]; simp)
    refine ⟨_, _, rfl, .inl (span_ev (o := o) h0 h1 hw), some (nextR h o), .val (.int l), .val (.int h), .val (.int (startOf l o)), rch_next hr, ?_⟩
    rw [sweep_step hr hp hb.1 hb.2]
    congr 1
    split
    · rw [Int.add_mul, ← Int.add_assoc]
    · rw [Int.add_zero, Int.add_zero])
  exact ⟨_, e, _, _, _, _, rfl⟩
end Fx

namespace Fx
open PySem PySem.Spec L2
/-! columns -/
def colP (rs : List Rc) (x y : Int) : Bool := rs.any fun r => decide (r.a ≤ x ∧ x < r.c ∧ r.b ≤ y ∧ y < r.d)
theorem colP_iff {rs : List Rc} {x y : Int} : colP rs x y = true ↔ ∃ r ∈ rs, r.a ≤ x ∧ x < r.c ∧ r.b ≤ y ∧ y < r.d := by
  unfold colP
  rw [List.any_eq_true]
  simp only [decide_eq_true_eq]
def colA (rs : List Rc) (x : Int) : Int := cnt (-1000) 1000 (colP rs x)
def area (rs : List Rc) : Int := smI (colA rs) (rng (-1000) 1000)
def bdR (rs : List Rc) : Prop := ∀ r ∈ rs, -1000 ≤ r.a ∧ r.a < r.c ∧ r.c ≤ 1000 ∧ -1000 ≤ r.b ∧ r.b < r.d ∧ r.d ≤ 1000
theorem area_len {rs : List Rc} {cs : List (List Int)} (hb : bdR rs) (hn : cs.Nodup) (hm : ∀ k, k ∈ cs ↔ ∃ r ∈ rs, k ∈ sqL r) : ((cs.length : Nat) : Int) = area rs := by
  have e : cs.Perm ((rng (-1000) 1000).flatMap fun x => ((rng (-1000) 1000).filter (colP rs x)).map fun y => [x, y]) := by
    refine (List.perm_ext_iff_of_nodup hn ?_).mpr fun k => ?_
    · refine List.pairwise_flatMap.mpr ⟨fun x _ => ?_, ?_⟩
      · exact List.pairwise_map.mpr ((List.Pairwise.filter _ (rng_pw _ _)).imp fun h e => by simp at e; omega)
      · refine (rng_pw _ _).imp fun h k hk l hl e => ?_
        obtain ⟨_, _, rfl⟩ := List.mem_map.mp hk
        obtain ⟨_, _, rfl⟩ := List.mem_map.mp hl
        simp at e
        omega
    · rw [hm k, List.mem_flatMap]
      constructor
      · rintro ⟨r, hr, hk⟩
        obtain ⟨x, y, rfl, h⟩ := mem_sqL.mp hk
        have := hb r hr
        exact ⟨x, mem_rng.mpr (by omega), List.mem_map.mpr ⟨y, List.mem_filter.mpr ⟨mem_rng.mpr (by omega), colP_iff.mpr ⟨r, hr, h⟩⟩, rfl⟩⟩
      · rintro ⟨x, _, hk⟩
        obtain ⟨y, hy, rfl⟩ := List.mem_map.mp hk
        obtain ⟨r, hr, h⟩ := colP_iff.mp (List.mem_filter.mp hy).2
        exact ⟨r, hr, mem_sqL.mpr ⟨x, y, rfl, h⟩⟩
  rw [e.length_eq]
  exact len_flat (f := colA rs) (fun x => by rw [List.length_map]; rfl) _
/-! the stripes -/
def xsOf (rs : List Rc) : List Int := sortI (rs.flatMap fun r => [r.a, r.c])
theorem mem_xs {rs : List Rc} {v : Int} : v ∈ xsOf rs ↔ ∃ r ∈ rs, v = r.a ∨ v = r.c := by
  unfold xsOf
  rw [mem_sortI, List.mem_flatMap]
  simp
theorem col_stripe {rs : List Rc} {L : List (Int × Int)} {x0 x1 x : Int} (hx : x0 ≤ x ∧ x < x1) (hv : ∀ v ∈ xsOf rs, v ≤ x0 ∨ x1 ≤ v) (hL : ∀ p, p ∈ L ↔ ∃ r ∈ rs, (r.a ≤ x0 ∧ x1 ≤ r.c) ∧ (r.b, r.d) = p) : colA rs x = cnt (-1000) 1000 (inS L) := by
  refine cnt_congr fun y _ _ => ?_
  rw [Bool.eq_iff_iff, colP_iff]
  unfold inS
  rw [List.any_eq_true]
  constructor
  · rintro ⟨r, hr, h⟩
    have h1 := hv r.a (mem_xs.mpr ⟨r, hr, .inl rfl⟩)
    have h2 := hv r.c (mem_xs.mpr ⟨r, hr, .inr rfl⟩)
    exact ⟨(r.b, r.d), (hL _).mpr ⟨r, hr, by omega, rfl⟩, by simp; omega⟩
  · rintro ⟨p, hp, h⟩
    obtain ⟨r, hr, h1, rfl⟩ := (hL p).mp hp
    simp at h
    exact ⟨r, hr, by omega⟩
/-- the area left of z -/
def arT (rs : List Rc) (z : Int) : Int := smI (colA rs) (rng (-1000) z)
theorem arT_step {rs : List Rc} {L : List (Int × Int)} {x0 x1 : Int} (h0 : -1000 ≤ x0) (h1 : x0 ≤ x1) (hv : ∀ v ∈ xsOf rs, v ≤ x0 ∨ x1 ≤ v) (hL : ∀ p, p ∈ L ↔ ∃ r ∈ rs, (r.a ≤ x0 ∧ x1 ≤ r.c) ∧ (r.b, r.d) = p) : arT rs x1 = arT rs x0 + cnt (-1000) 1000 (inS L) * (x1 - x0) := by
  unfold arT
  rw [rng_cut h0 h1, smI_app, smI_const (c := cnt (-1000) 1000 (inS L)) fun x hx => col_stripe (mem_rng.mp hx) hv hL, rng_len, Int.mul_comm]
  congr 2
  omega
theorem arT_first {rs : List Rc} {x0 : Int} (hv : ∀ v ∈ xsOf rs, x0 ≤ v) : arT rs x0 = 0 := by
  unfold arT
  rw [smI_const (c := 0) fun x hx => ?_, Int.mul_zero]
  refine cnt_none fun y _ _ => ?_
  rw [Bool.eq_false_iff]
  intro z
  obtain ⟨r, hr, h⟩ := colP_iff.mp z
  have := hv r.a (mem_xs.mpr ⟨r, hr, .inl rfl⟩)
  have := (mem_rng.mp hx).2
  omega
theorem arT_last {rs : List Rc} {x1 : Int} (h1 : -1000 ≤ x1) (h2 : x1 ≤ 1000) (hv : ∀ v ∈ xsOf rs, v ≤ x1) : arT rs x1 = area rs := by
  unfold arT area
  rw [rng_cut h1 h2, smI_app, smI_const (l := rng x1 1000) (c := 0) fun x hx => ?_, Int.mul_zero, Int.add_zero]
  refine cnt_none fun y _ _ => ?_
  rw [Bool.eq_false_iff]
  intro z
  obtain ⟨r, hr, h⟩ := colP_iff.mp z
  have := hv r.c (mem_xs.mpr ⟨r, hr, .inr rfl⟩)
  have := (mem_rng.mp hx).1
  omega
end Fx

namespace Fx
open PySem PySem.Spec L2
section
variable {α : Type} {fi : Fa} {g : Fg} {ft f : Fe} {vs : List Nat} {s : S}
theorem clgM_ev (M : Nat) (enc : α → D) (L : α → List D) {inner : Fp} {w : S} : ∀ {xs : List α} {acc : List D}, (∀ x ∈ xs, ∃ sx, g (enc x) w = some sx ∧ ft sx = some (.bool true, sx) ∧ (∀ acc, acc.length + (L x).length ≤ M → inner acc sx = some (acc ++ L x, sx)) ∧ sx.wipe vs = w) → acc.length + (xs.flatMap L).length ≤ M → clLoop g ft vs inner (xs.map enc) acc w = some (acc ++ xs.flatMap L, w)
  | [], acc, _, _ => by simp [clLoop]
  | x :: xs, acc, h, hl => by
    obtain ⟨sx, h1, h2, h3, h4⟩ := h x List.mem_cons_self
    have hr : ∀ y ∈ xs, ∃ sx, g (enc y) w = some sx ∧ ft sx = some (.bool true, sx) ∧ (∀ acc, acc.length + (L y).length ≤ M → inner acc sx = some (acc ++ L y, sx)) ∧ sx.wipe vs = w := fun y hy => h y (List.mem_cons_of_mem _ hy)
    rw [List.flatMap_cons, List.length_append] at hl
    rw [List.map_cons]
    unfold clLoop
    rw [h1, Option.bind_some, h2, Option.bind_some]
    dsimp only
    rw [h3 acc (by omega), Option.bind_some]
    dsimp only
    rw [h4, clgM_ev M enc L hr (by rw [List.length_append]; omega), List.flatMap_cons, List.append_assoc]
end
theorem xs_ev {c : D} (rs : List Rc) (hc : seqD c = some (rs.map rcD)) (hl : rs.length ≤ 2000) :
    (eUn sortSetD (eComp (iterS (eVar 0)) (gNm 9) (eC (.bool true)) [9, 10] (pFor (iterS (eTup (aCons (eBin ixD (eVar 9) (eC (.int 0))) (aCons (eBin ixD (eVar 9) (eC (.int 2))) (aNil))))) (gNm 10) (eC (.bool true)) [10] (pEmitI (eVar 10))))) (st0 11 [c]) = some (.list ((xsOf rs).map PyData.int), st0 11 [c]) := by
  have hlen : (rs.flatMap fun r => [PyData.int r.a, PyData.int r.c]).length = 2 * rs.length := by
    clear hl hc
    induction rs with
    | nil => rfl
    | cons r b ih => rw [List.flatMap_cons, List.length_append, ih, List.length_cons]; simp; omega
  have e : eComp (iterS (eVar 0)) (gNm 9) (eC (.bool true)) [9, 10] (pFor (iterS (eTup (aCons (eBin ixD (eVar 9) (eC (.int 0))) (aCons (eBin ixD (eVar 9) (eC (.int 2))) (aNil))))) (gNm 10) (eC (.bool true)) [10] (pEmitI (eVar 10))) (st0 11 [c]) = some (.list ((rs.flatMap fun r => [r.a, r.c]).map PyData.int), st0 11 [c]) := by
    unfold eComp
    have it : iterS (eVar 0) (st0 11 [c]) = some (rs.map rcD, st0 11 [c]) := iterS_ev rfl hc
    rw [it, Option.bind_some]
    dsimp only
    rw [if_pos (show noOwn (st0 11 [c]) [9, 10] = true from rfl)]
    have q := clgM_ev (g := gNm 9) (ft := eC (.bool true)) (vs := [9, 10]) (inner := pFor (iterS (eTup (aCons (eBin ixD (eVar 9) (eC (.int 0))) (aCons (eBin ixD (eVar 9) (eC (.int 2))) (aNil))))) (gNm 10) (eC (.bool true)) [10] (pEmitI (eVar 10))) (w := (st0 11 [c]).wipe [9, 10]) 4000 rcD (fun r => [PyData.int r.a, PyData.int r.c]) (xs := rs) (acc := []) (fun r _ => ⟨⟨[.val c, .no, .no, .no, .no, .no, .no, .no, .no, .val (rcD r), .no], none⟩, rfl, rfl, fun acc ha => ?_, rfl⟩) (by rw [hlen]; simp; omega)
    · rw [q]
      show some (PyData.list ([] ++ rs.flatMap fun r => [PyData.int r.a, PyData.int r.c]), _) = _
      rw [List.nil_append, List.map_flatMap]
      rfl
    · have e1 : ∀ (acc : List D) (n : Int), acc.length < 4000 → pEmitI (eVar 10) acc ⟨[.val c, .no, .no, .no, .no, .no, .no, .no, .no, .val (rcD r), .val (.int n)], none⟩ = some (acc ++ [.int n], ⟨[.val c, .no, .no, .no, .no, .no, .no, .no, .no, .val (rcD r), .val (.int n)], none⟩) := fun acc n h => by
        unfold pEmitI
        show (if acc.length < 4000 then some (acc ++ [PyData.int n], _) else none) = _
        rw [if_pos h]
      simp only [List.length_cons, List.length_nil] at ha
      show (pEmitI (eVar 10) acc ⟨[.val c, .no, .no, .no, .no, .no, .no, .no, .no, .val (rcD r), .val (.int r.a)], none⟩).bind (fun (acc', s3) => clLoop (gNm 10) (eC (.bool true)) [10] (pEmitI (eVar 10)) [.int r.c] acc' (s3.wipe [10])) = _
      rw [e1 acc r.a (by omega), Option.bind_some]
      show (pEmitI (eVar 10) (acc ++ [.int r.a]) ⟨[.val c, .no, .no, .no, .no, .no, .no, .no, .no, .val (rcD r), .val (.int r.c)], none⟩).bind (fun (acc', s3) => clLoop (gNm 10) (eC (.bool true)) [10] (pEmitI (eVar 10)) [] acc' (s3.wipe [10])) = _
      rw [e1 _ r.c (by rw [List.length_append]; simp; omega), Option.bind_some]
      show some (acc ++ [PyData.int r.a] ++ [PyData.int r.c], _) = _
      rw [List.append_assoc]
      rfl
  refine eUn_ev e (sortI_ev _ ?_)
  have : (rs.flatMap fun r => [r.a, r.c]).length = 2 * rs.length := by
    have := congrArg List.length (show (rs.flatMap fun r => [r.a, r.c]).map PyData.int = rs.flatMap fun r => [PyData.int r.a, PyData.int r.c] by rw [List.map_flatMap]; rfl)
    rw [List.length_map, hlen] at this
    exact this
  omega
theorem ixI {xs : List Int} {k : Nat} {v : Int} (e : xs[k]? = some v) : ixD (.list (xs.map PyData.int)) (.int (k : Nat)) = some (.int v) := by
  show L2.atI (xs.map PyData.int) ((k : Nat) : Int) = _
  have hk : k < xs.length := (List.getElem?_eq_some_iff.mp e).1
  have z : L2.ixN (xs.map PyData.int).length ((k : Nat) : Int) = some k := by
    unfold L2.ixN
    rw [List.length_map]
    simp
    omega
  unfold L2.atI
  rw [z]
  show (xs.map PyData.int)[k]? = _
  rw [List.getElem?_map, e]
  rfl
theorem stripe_ev {c : D} {rs : List Rc} (hc : seqD c = some (rs.map rcD)) (hb : bdR rs) (hl : rs.length ≤ 2000) {k : Nat} {x0 x1 tot : Int} {c3 c4 c5 c6 c7 c8 : C} (e0 : (xsOf rs)[k]? = some x0) (e1 : (xsOf rs)[k + 1]? = some x1) (h01 : -1000 ≤ x0 ∧ x0 < x1 ∧ x1 ≤ 1000) (hv : ∀ v ∈ xsOf rs, v ≤ x0 ∨ x1 ≤ v) :
    ∃ s', (sSeq (sSet 4 (eCall sortedD (aCons (eComp (iterS (eVar 0)) (gNm 9) (eAnd (eBin leD (eBin ixD (eVar 9) (eC (.int 0))) (eBin ixD (eVar 1) (eVar 3))) (eBin geD (eBin ixD (eVar 9) (eC (.int 2))) (eBin ixD (eVar 1) (eBin addD (eVar 3) (eC (.int 1)))))) [9] (pEmit (eTup (aCons (eBin ixD (eVar 9) (eC (.int 1))) (aCons (eBin ixD (eVar 9) (eC (.int 3))) (aNil)))))) (aNil))))
  (sSeq (sSet 5 (eC .none))
  (sFor (iterS (eVar 4)) (gTp 2 (gsCons (gNm 6) (gsCons (gNm 7) (gsNil)))) spanB))) (CV c (.list ((xsOf rs).map PyData.int)) tot (k : Nat) c4 c5 c6 c7 c8) = some (.next, s') ∧ ∃ c4 c5 c6 c7 c8, s' = CV c (.list ((xsOf rs).map PyData.int)) (tot + (arT rs x1 - arT rs x0)) (k : Nat) c4 c5 c6 c7 c8 := by
  obtain ⟨L, so, pw, hm⟩ := sorted_spans ((rs.filter fun r => decide (r.a ≤ x0) && decide (r.c ≥ x1)).map fun r => (r.b, r.d))
  have hL : ∀ p, p ∈ L ↔ ∃ r ∈ rs, (r.a ≤ x0 ∧ x1 ≤ r.c) ∧ (r.b, r.d) = p := fun p => by
    rw [hm p, List.mem_map]
    simp only [List.mem_filter, Bool.and_eq_true, decide_eq_true_eq, and_assoc, ge_iff_le]
  have i0 := ixI e0
  have i1 : ixD (.list ((xsOf rs).map PyData.int)) (.int ((k : Nat) + 1)) = some (.int x1) := ixI e1
  rw [List.map_map] at so
  have cm : (eComp (iterS (eVar 0)) (gNm 9) (eAnd (eBin leD (eBin ixD (eVar 9) (eC (.int 0))) (eBin ixD (eVar 1) (eVar 3))) (eBin geD (eBin ixD (eVar 9) (eC (.int 2))) (eBin ixD (eVar 1) (eBin addD (eVar 3) (eC (.int 1)))))) [9] (pEmit (eTup (aCons (eBin ixD (eVar 9) (eC (.int 1))) (aCons (eBin ixD (eVar 9) (eC (.int 3))) (aNil)))))) (CV c (.list ((xsOf rs).map PyData.int)) tot (k : Nat) c4 c5 c6 c7 c8) = some (.list ((rs.filter fun r => decide (r.a ≤ x0) && decide (r.c ≥ x1)).map ((fun p : Int × Int => kD [p.1, p.2]) ∘ fun r => (r.b, r.d))), CV c (.list ((xsOf rs).map PyData.int)) tot (k : Nat) c4 c5 c6 c7 c8) :=
    comp_ev0 rs rcD (fun r => decide (r.a ≤ x0) && decide (r.c ≥ x1)) ((fun p : Int × Int => kD [p.1, p.2]) ∘ fun r => (r.b, r.d)) (iterS_ev rfl hc) rfl rfl (fun r _ => ⟨⟨[.val c, .val (.list ((xsOf rs).map PyData.int)), .val (.int tot), .val (.int (k : Nat)), c4, c5, c6, c7, c8, .val (rcD r), .no], none⟩, rfl, eAnd_ev (eBin_ev (x := .int r.a) (y := .int x0) rfl (eBin_ev rfl rfl i0) rfl) (fun _ => eBin_ev (x := .int r.c) (y := .int x1) rfl (eBin_ev (y := .int ((k : Nat) + 1)) rfl rfl i1) rfl), fun _ => rfl, rfl⟩) (by omega)
  refine seq_ex (P := fun s => s = CV c (.list ((xsOf rs).map PyData.int)) tot (k : Nat) (.val (.list (L.map fun p => kD [p.1, p.2]))) c5 c6 c7 c8) (ex_of (sSet_ev (s1 := CV c (.list ((xsOf rs).map PyData.int)) tot (k : Nat) c4 c5 c6 c7 c8) (eCall_ev (aOne_ev cm) so)) rfl) ?_
  rintro _ rfl
  refine seq_ex (P := fun s => s = CV c (.list ((xsOf rs).map PyData.int)) tot (k : Nat) (.val (.list (L.map fun p => kD [p.1, p.2]))) (.val .none) c6 c7 c8) (ex_of rfl rfl) ?_
  rintro _ rfl
  obtain ⟨s', e, d5, d6, d7, d8, rfl⟩ := spans_ev (c := c) (tot := tot) (lo := -1000) (hi := 1000) (c6 := c6) (c7 := c7) (c8 := c8) L pw (fun p hp => by obtain ⟨r, hr, _, rfl⟩ := (hL p).mp hp; have := hb r hr; dsimp only; omega) i0 i1 (by omega)
  refine ⟨_, e, .val (.list (L.map fun p => kD [p.1, p.2])), d5, d6, d7, d8, ?_⟩
  rw [arT_step h01.1 (by omega) hv hL]
  congr 1
  omega
theorem pw_at {xs : List Int} (h : xs.Pairwise (· < ·)) {i j : Nat} {a b : Int} (hij : i < j) (ha : xs[i]? = some a) (hb : xs[j]? = some b) : a < b := by
  obtain ⟨h1, rfl⟩ := List.getElem?_eq_some_iff.mp ha
  obtain ⟨h2, rfl⟩ := List.getElem?_eq_some_iff.mp hb
  exact List.pairwise_iff_getElem.mp h i j h1 h2 hij
theorem cov_ev {c : D} {rs : List Rc} (hc : seqD c = some (rs.map rcD)) (hb : bdR rs) (hl : rs.length ≤ 2000) : g_covered_by [c] = some (.int (area rs)) := by
  have hxl : (xsOf rs).length ≤ 4000 := by
    have h1 := sortI_len (rs.flatMap fun r => [r.a, r.c])
    have h2 : (rs.flatMap fun r => [r.a, r.c]).length = 2 * rs.length := by
      clear h1 hl hc hb
      induction rs with
      | nil => rfl
      | cons r b ih => rw [List.flatMap_cons, List.length_append, ih, List.length_cons]; simp; omega
    unfold xsOf
    omega
  have hbx : ∀ v ∈ xsOf rs, -1000 ≤ v ∧ v ≤ 1000 := fun v hv => by
    obtain ⟨r, hr, h⟩ := mem_xs.mp hv
    have := hb r hr
    omega
  have pw : (xsOf rs).Pairwise (· < ·) := sortI_pw _
  refine fnV_ex ?_
  refine seq_ex (P := fun s => s = ⟨[.val c, .val (.list ((xsOf rs).map PyData.int)), .no, .no, .no, .no, .no, .no, .no, .no, .no], none⟩) (ex_of (sSet_ev (s1 := st0 11 [c]) (xs_ev rs hc hl)) rfl) ?_
  rintro _ rfl
  refine seq_ex (P := fun s => s = ⟨[.val c, .val (.list ((xsOf rs).map PyData.int)), .val (.int 0), .no, .no, .no, .no, .no, .no, .no, .no], none⟩) (ex_of rfl rfl) ?_
  rintro _ rfl
  refine seq_ex (P := fun s => ∃ l, s = ⟨.val c :: .val (.list ((xsOf rs).map PyData.int)) :: .val (.int (area rs)) :: l, none⟩) ?_ ?_
  · have hn : (iterA range1D (aCons (eBin subD (eCall lenD (aCons (eVar 1) (aNil))) (eC (.int 1))) (aNil))) ⟨[.val c, .val (.list ((xsOf rs).map PyData.int)), .val (.int 0), .no, .no, .no, .no, .no, .no, .no, .no], none⟩ = some ((rng 0 (((xsOf rs).length : Nat) - 1)).map PyData.int, ⟨[.val c, .val (.list ((xsOf rs).map PyData.int)), .val (.int 0), .no, .no, .no, .no, .no, .no, .no, .no], none⟩) := by
      refine range1_ev (aOne_ev (eBin_ev (x := .int ((xsOf rs).length : Nat)) (eCall_ev (xs := [.list ((xsOf rs).map PyData.int)]) rfl (by show some (PyData.int (((xsOf rs).map PyData.int).length : Nat)) = _; rw [List.length_map])) rfl rfl)) (by omega)
    cases hx : xsOf rs with
    | nil =>
      have hrs : rs = [] := by
        cases rs with
        | nil => rfl
        | cons r b =>
          have : r.a ∈ xsOf (r :: b) := mem_xs.mpr ⟨r, List.mem_cons_self, .inl rfl⟩
          rw [hx] at this
          cases this
      have ha : area rs = 0 := by
        rw [hrs]
        unfold area
        rw [smI_const (f := colA []) (c := 0) fun x _ => cnt_none (p := colP [] x) fun y _ _ => rfl, Int.mul_zero]
      rw [ha]
      exact ex_of rfl ⟨_, rfl⟩
    | cons x0 xt =>
      have e00 : (xsOf rs)[0]? = some x0 := by rw [hx]; rfl
      rw [← hx]
      have first : ∀ v ∈ xsOf rs, x0 ≤ v := fun v hv => by
        rw [hx] at hv pw
        rcases List.mem_cons.mp hv with rfl | hv
        · exact Int.le_refl _
        · exact Int.le_of_lt (List.rel_of_pairwise_cons pw hv)
      have hlen : (xsOf rs).length = xt.length + 1 := by rw [hx]; rfl
      obtain ⟨s', e, c3, c4, c5, c6, c7, c8, tot, h, rfl⟩ := for_pre (fi := iterA range1D (aCons (eBin subD (eCall lenD (aCons (eVar 1) (aNil))) (eC (.int 1))) (aNil))) (g := gNm 3) (F := sSeq (sSet 4 (eCall sortedD (aCons (eComp (iterS (eVar 0)) (gNm 9) (eAnd (eBin leD (eBin ixD (eVar 9) (eC (.int 0))) (eBin ixD (eVar 1) (eVar 3))) (eBin geD (eBin ixD (eVar 9) (eC (.int 2))) (eBin ixD (eVar 1) (eBin addD (eVar 3) (eC (.int 1)))))) [9] (pEmit (eTup (aCons (eBin ixD (eVar 9) (eC (.int 1))) (aCons (eBin ixD (eVar 9) (eC (.int 3))) (aNil)))))) (aNil))))
        (sSeq (sSet 5 (eC .none))
        (sFor (iterS (eVar 4)) (gTp 2 (gsCons (gNm 6) (gsCons (gNm 7) (gsNil)))) spanB))) (rng 0 (((xsOf rs).length : Nat) - 1)) PyData.int (fun pre s => ∃ c3 c4 c5 c6 c7 c8 tot, (∀ x, (xsOf rs)[pre.length]? = some x → tot = arT rs x) ∧ s = ⟨[.val c, .val (.list ((xsOf rs).map PyData.int)), .val (.int tot), c3, c4, c5, c6, c7, c8, .no, .no], none⟩) hn ⟨_, _, _, _, _, _, 0, fun x hx => by
            have : x = x0 := by rw [List.length_nil, e00] at hx; exact (Option.some.inj hx).symm
            rw [this, arT_first first], rfl⟩ (by
          rintro pre i suf s hall ⟨c3, c4, c5, c6, c7, c8, tot, ht, rfl⟩
          have hi := rng_idx hall
          have hk : pre.length + 1 < (xsOf rs).length := by
            have := congrArg List.length hall
            rw [rng_len, List.length_append, List.length_cons] at this
            omega
          obtain ⟨x0, e0⟩ : ∃ v, (xsOf rs)[pre.length]? = some v := ⟨_, List.getElem?_eq_getElem (by omega)⟩
          obtain ⟨x1, e1⟩ : ∃ v, (xsOf rs)[pre.length + 1]? = some v := ⟨_, List.getElem?_eq_getElem hk⟩
          have i0 : i = ((pre.length : Nat) : Int) := by omega
          have b0 := hbx x0 (List.mem_of_getElem? e0)
          have b1 := hbx x1 (List.mem_of_getElem? e1)
          obtain ⟨s', e, d4, d5, d6, d7, d8, rfl⟩ := stripe_ev hc hb hl (tot := tot) (c3 := c3) (c4 := c4) (c5 := c5) (c6 := c6) (c7 := c7) (c8 := c8) e0 e1 ⟨b0.1, pw_at pw (by omega) e0 e1, b1.2⟩ (fun v hv => by
            obtain ⟨j, hj⟩ := List.mem_iff_getElem?.mp hv
            rcases Nat.lt_trichotomy j pre.length with q | q | q
            · exact .inl (Int.le_of_lt (pw_at pw q hj e0))
            · rw [q, e0] at hj; exact .inl (Int.le_of_eq (Option.some.inj hj).symm)
            · rcases Nat.lt_or_ge (pre.length + 1) j with q' | q'
              · exact .inr (Int.le_of_lt (pw_at pw q' e1 hj))
              · have : j = pre.length + 1 := by omega
                rw [this, e1] at hj
                exact .inr (Int.le_of_eq (Option.some.inj hj)))
          rw [i0]
          refine ⟨CV c (.list ((xsOf rs).map PyData.int)) tot (pre.length : Nat) c4 c5 c6 c7 c8, _, rfl, .inl e, .val (.int (pre.length : Nat)), d4, d5, d6, d7, d8, _, fun x hx => ?_, rfl⟩
          rw [List.length_append, List.length_singleton, e1] at hx
          rw [← Option.some.inj hx, ht x0 e0]
          omega)
      refine ⟨_, e, [c3, c4, c5, c6, c7, c8, .no, .no], ?_⟩
      · obtain ⟨xl, el⟩ : ∃ v, (xsOf rs)[xt.length]? = some v := ⟨_, List.getElem?_eq_getElem (by omega)⟩
        have bl := hbx xl (List.mem_of_getElem? el)
        have : tot = arT rs xl := h xl (by rw [rng_len, show (((xsOf rs).length : Nat) - 1 - 0 : Int).toNat = xt.length by omega]; exact el)
        rw [this, arT_last bl.1 bl.2 fun v hv => ?_]
        obtain ⟨j, hj⟩ := List.mem_iff_getElem?.mp hv
        have hj' : j < (xsOf rs).length := (List.getElem?_eq_some_iff.mp hj).1
        rcases Nat.lt_or_ge j xt.length with q | q
        · exact Int.le_of_lt (pw_at pw q hj el)
        · have : j = xt.length := by omega
          rw [this, el] at hj
          exact Int.le_of_eq (Option.some.inj hj).symm
  · rintro _ ⟨l, rfl⟩
    exact ex_of rfl rfl
end Fx

namespace Fx
open PySem PySem.Spec L2
/-! free unit squares -/
def fr (R : Rm) : List (List Int) := (rng 0 R.w).flatMap fun x => ((rng 0 R.h).filter fun y => fit R ⟨x, y, x + 1, y + 1⟩).map fun y => [x, y]
theorem fit1 {R : Rm} {x y : Int} : fit R ⟨x, y, x + 1, y + 1⟩ = true ↔ opnP R x y := by
  rw [fit_say]
  unfold opnP
  constructor
  · rintro ⟨h, h2⟩
    dsimp only at h
    exact ⟨by omega, by omega, by omega, by omega, fun q hq z => h2 q hq ⟨z.1 |> fun _ => by dsimp only; omega, by dsimp only; omega, by dsimp only; omega, by dsimp only; omega⟩⟩
  · rintro ⟨h1, h2, h3, h4, h5⟩
    refine ⟨by dsimp only; omega, fun q hq z => h5 q hq ?_⟩
    dsimp only at z
    omega
theorem mem_fr {R : Rm} {k : List Int} : k ∈ fr R ↔ ∃ x y, k = [x, y] ∧ opnP R x y := by
  unfold fr
  rw [List.mem_flatMap]
  constructor
  · rintro ⟨x, _, h⟩
    obtain ⟨y, hy, rfl⟩ := List.mem_map.mp h
    exact ⟨x, y, rfl, fit1.mp (List.mem_filter.mp hy).2⟩
  · rintro ⟨x, y, rfl, h⟩
    have h' := h
    unfold opnP at h'
    exact ⟨x, mem_rng.mpr ⟨h'.1, h'.2.1⟩, List.mem_map.mpr ⟨y, List.mem_filter.mpr ⟨mem_rng.mpr ⟨h'.2.2.1, h'.2.2.2.1⟩, fit1.mpr h⟩, rfl⟩⟩
theorem leR_lt {x y u v : Int} (h : x < u ∨ x = u ∧ y < v) : leR [x, y] [u, v] = true := by
  rw [leR_le, decide_eq_true_eq]
  rcases h with h | ⟨rfl, h⟩
  · exact List.le_of_lt (List.Lex.rel h)
  · exact List.le_of_lt (List.Lex.cons (List.Lex.rel h))
theorem fr_pw (R : Rm) : (fr R).Pairwise (fun a b => leR a b = true) ∧ (fr R).Nodup := by
  have key : (fr R).Pairwise (fun a b => ∃ x y u v, a = [x, y] ∧ b = [u, v] ∧ (x < u ∨ x = u ∧ y < v)) := by
    refine List.pairwise_flatMap.mpr ⟨fun x _ => ?_, ?_⟩
    · exact List.pairwise_map.mpr ((List.Pairwise.filter _ (rng_pw _ _)).imp fun h => ⟨x, _, x, _, rfl, rfl, .inr ⟨rfl, h⟩⟩)
    · refine (rng_pw _ _).imp fun h k hk l hl => ?_
      obtain ⟨_, _, rfl⟩ := List.mem_map.mp hk
      obtain ⟨_, _, rfl⟩ := List.mem_map.mp hl
      exact ⟨_, _, _, _, rfl, rfl, .inl h⟩
  refine ⟨key.imp ?_, key.imp ?_⟩
  · rintro _ _ ⟨x, y, u, v, rfl, rfl, h⟩
    exact leR_lt h
  · rintro _ _ ⟨x, y, u, v, rfl, rfl, h⟩ e
    simp at e
    omega
theorem sorted_open {R : Rm} {os : List (List Int)} (nd : os.Nodup) (hm : ∀ k, k ∈ os ↔ ∃ x y, k = [x, y] ∧ opnP R x y) : sortedD [.list (os.map kD)] = some (.list ((fr R).map kD)) := by
  rw [sortedD_ev fun k hk => by obtain ⟨x, y, rfl, _⟩ := (hm k).mp hk; exact fun z => nomatch z]
  have e1 := sort_same (le := leR) leR_tr leR_tot leR_anti (xs := os) (ys := fr R) nd fun k => by rw [hm, mem_fr]
  have e2 := sort_same (le := leR) leR_tr leR_tot leR_anti (xs := fr R) (ys := fr R) (fr_pw R).2 fun k => Iff.rfl
  rw [e1, ← e2, List.mergeSort_of_pairwise (fr_pw R).1]
theorem fr_len {R : Rm} (hR : okR R) : (fr R).length ≤ 3600 := by
  obtain ⟨w1, w2, w3, w4, w5, w6⟩ := hR
  have := flat_len (f := fun x => ((rng 0 R.h).filter fun y => fit R ⟨x, y, x + 1, y + 1⟩).map fun y => [x, y]) (m := 60) (xs := rng 0 R.w) fun x _ => by
    rw [List.length_map]
    exact Nat.le_trans (List.length_filter_le _ _) (by rw [rng_len]; omega)
  rw [rng_len] at this
  unfold fr
  have h2 : (R.w - 0).toNat ≤ 60 := by omega
  omega
theorem compM_ev {α : Type} {fi : Fa} {g : Fg} {ft : Fe} {vs : List Nat} {s : S} (M : Nat) (xs : List α) (enc : α → D) (L : α → List D) {inner : Fp} {s1 : S} (h1 : fi s = some (xs.map enc, s1)) (hv : noOwn s1 vs = true) (hm : s1.mix (s1.wipe vs) vs = s1) (hs : ∀ x ∈ xs, ∃ sx, g (enc x) (s1.wipe vs) = some sx ∧ ft sx = some (.bool true, sx) ∧ (∀ acc, acc.length + (L x).length ≤ M → inner acc sx = some (acc ++ L x, sx)) ∧ sx.wipe vs = s1.wipe vs) (hl : (xs.flatMap L).length ≤ M) :
    eComp fi g ft vs inner s = some (.list (xs.flatMap L), s1) := by
  unfold eComp
  rw [h1, Option.bind_some]
  dsimp only
  rw [if_pos hv, clgM_ev M enc L hs (by simpa using hl), Option.map_some]
  dsimp only
  rw [hm, List.nil_append]
/-! areas -/
theorem free_count {rs : List Rc} {w h : Int} {os : List (List Int)} (hw : 0 ≤ w ∧ w ≤ 1000 ∧ 0 ≤ h ∧ h ≤ 1000) (hin : ∀ r ∈ rs, 0 ≤ r.a ∧ r.a < r.c ∧ r.c ≤ w ∧ 0 ≤ r.b ∧ r.b < r.d ∧ r.d ≤ h) (nd : os.Nodup) (hm : ∀ k, k ∈ os ↔ ∃ x y, k = [x, y] ∧ 0 ≤ x ∧ x < w ∧ 0 ≤ y ∧ y < h ∧ ∀ r ∈ rs, ¬ (r.a ≤ x ∧ x < r.c ∧ r.b ≤ y ∧ y < r.d)) : ((os.length : Nat) : Int) = w * h - area rs := by
  have hb : bdR rs := fun r hr => by have := hin r hr; omega
  have a := area_len (cs := dd (rs.flatMap sqL)) hb (nodup_dd _) fun k => by rw [mem_dd, List.mem_flatMap]
  have p : (dd (rs.flatMap sqL) ++ os).Perm (sqL ⟨0, 0, w, h⟩) := by
    refine (List.perm_ext_iff_of_nodup ?_ ?_).mpr fun k => ?_
    · refine List.nodup_append.mpr ⟨nodup_dd _, nd, fun k hk l hl e => ?_⟩
      subst e
      obtain ⟨x, y, rfl, _, _, _, _, h5⟩ := (hm k).mp hl
      rw [mem_dd, List.mem_flatMap] at hk
      obtain ⟨r, hr, hk⟩ := hk
      obtain ⟨x', y', e, h'⟩ := mem_sqL.mp hk
      simp at e
      obtain ⟨rfl, rfl⟩ := e
      exact h5 r hr h'
    · refine List.pairwise_flatMap.mpr ⟨fun x _ => ?_, ?_⟩
      · exact List.pairwise_map.mpr ((rng_pw _ _).imp fun h e => by simp at e; omega)
      · refine (rng_pw _ _).imp fun h k hk l hl e => ?_
        obtain ⟨_, _, rfl⟩ := List.mem_map.mp hk
        obtain ⟨_, _, rfl⟩ := List.mem_map.mp hl
        simp at e
        omega
    · rw [List.mem_append, mem_dd, List.mem_flatMap, hm, mem_sqL]
      constructor
      · rintro (⟨r, hr, hk⟩ | ⟨x, y, rfl, h1, h2, h3, h4, _⟩)
        · obtain ⟨x, y, rfl, h'⟩ := mem_sqL.mp hk
          have := hin r hr
          exact ⟨x, y, rfl, by dsimp only; omega⟩
        · exact ⟨x, y, rfl, h1, h2, h3, h4⟩
      · rintro ⟨x, y, rfl, h1, h2, h3, h4⟩
        by_cases c : ∃ r ∈ rs, r.a ≤ x ∧ x < r.c ∧ r.b ≤ y ∧ y < r.d
        · obtain ⟨r, hr, c⟩ := c
          exact .inl ⟨r, hr, mem_sqL.mpr ⟨x, y, rfl, c⟩⟩
        · exact .inr ⟨x, y, rfl, h1, h2, h3, h4, fun r hr z => c ⟨r, hr, z⟩⟩
  have l := p.length_eq
  rw [List.length_append] at l
  have e : (((sqL ⟨0, 0, w, h⟩).length : Nat) : Int) = w * h := by
    have z := len_flat (g := fun x => (rng 0 h).map fun y => [x, y]) (f := fun _ => h) (fun x => by rw [List.length_map, rng_len]; omega) (rng 0 w)
    rw [smI_const (c := h) fun _ _ => rfl, rng_len] at z
    unfold sqL
    dsimp only
    rw [z]
    congr 1
    omega
  omega
theorem fr_area {R : Rm} (hR : okR R) : (((fr R).length : Nat) : Int) = R.w * R.h - area R.bl := by
  obtain ⟨w1, w2, w3, w4, w5, w6⟩ := id hR
  exact free_count (by omega) (fun r hr => by have := w6 r hr; omega) (fr_pw R).2 fun k => mem_fr
end Fx
-- k02a
namespace Fx
open PySem PySem.Spec L2
def SameQ (b b' : List Rc) : Prop := ∀ x y, (∃ r ∈ b', inR r x y) ↔ ∃ r ∈ b, inR r x y
theorem SameQ.refl (b : List Rc) : SameQ b b := fun _ _ => Iff.rfl
theorem SameQ.symm {b b' : List Rc} (h : SameQ b b') : SameQ b' b := fun x y => (h x y).symm
theorem SameQ.trans {a b c : List Rc} (h : SameQ a b) (g : SameQ b c) : SameQ a c := fun x y => (g x y).trans (h x y)
theorem cell_quart (b : List Rc) (x y : Int) : (∃ r ∈ b.map quart, inR r x y) ↔ ∃ r ∈ b, inR r y (-x - 1) := by
  constructor
  · rintro ⟨r, hr, hi⟩
    obtain ⟨r0, h0, rfl⟩ := List.mem_map.mp hr
    exact ⟨r0, h0, sq_quart.mp hi⟩
  · rintro ⟨r, hr, hi⟩
    exact ⟨_, List.mem_map.mpr ⟨r, hr, rfl⟩, sq_quart.mpr hi⟩
theorem sameQ_quart {b b' : List Rc} (h : SameQ b b') : SameQ (b.map quart) (b'.map quart) := fun x y => by
  rw [cell_quart, cell_quart]
  exact h _ _
section
variable {b b' : List Rc}
/-! what is covered -/
theorem area_same {rs rs' : List Rc} (h : bdR rs) (h' : bdR rs') (m : ∀ k, (∃ r ∈ rs', k ∈ sqL r) ↔ ∃ r ∈ rs, k ∈ sqL r) : area rs' = area rs := by
  have e : ∀ k, k ∈ dd (rs.flatMap sqL) ↔ ∃ r ∈ rs, k ∈ sqL r := fun k => by rw [mem_dd, List.mem_flatMap]
  rw [← area_len h (nodup_dd _) e, ← area_len h' (nodup_dd (rs.flatMap sqL)) fun k => (e k).trans (m k).symm]
theorem sq_cell {r : Rc} {u v : Int} : [u, v] ∈ sqL r ↔ inR r u v := by
  rw [mem_sqL]
  unfold inR
  constructor
  · rintro ⟨x, y, e, h⟩
    cases e
    exact ⟨h.1, h.2.1, h.2.2.1, h.2.2.2⟩
  · rintro ⟨h1, h2, h3, h4⟩
    exact ⟨u, v, rfl, h1, h2, h3, h4⟩
theorem sameQ_sq (h : SameQ b b') (k : List Int) : (∃ r ∈ b', k ∈ sqL r) ↔ ∃ r ∈ b, k ∈ sqL r := by
  constructor
  · rintro ⟨r, hr, hk⟩
    obtain ⟨x, y, rfl, _⟩ := mem_sqL.mp hk
    obtain ⟨r', h1, h2⟩ := (h x y).mp ⟨r, hr, sq_cell.mp hk⟩
    exact ⟨r', h1, sq_cell.mpr h2⟩
  · rintro ⟨r, hr, hk⟩
    obtain ⟨x, y, rfl, _⟩ := mem_sqL.mp hk
    obtain ⟨r', h1, h2⟩ := (h x y).mpr ⟨r, hr, sq_cell.mp hk⟩
    exact ⟨r', h1, sq_cell.mpr h2⟩
theorem bd_okB (hb : okB b) : bdR b := fun r hr => by have := hb.2.2 r hr; omega
theorem bd_quart (hb : okB b) : bdR (b.map quart) := fun r hr => by
  obtain ⟨r0, h0, rfl⟩ := List.mem_map.mp hr
  have := hb.2.2 r0 h0
  unfold quart
  dsimp only
  omega
theorem bd_app {l m : List Rc} (h : bdR l) (h' : bdR m) : bdR (l ++ m) := fun r hr => (List.mem_append.mp hr).elim (h r) (h' r)
theorem sameQ_app {a a' : List Rc} (h : SameQ b b') (g : SameQ a a') : SameQ (b ++ a) (b' ++ a') := fun x y => by
  have e : ∀ b a : List Rc, (∃ r ∈ b ++ a, inR r x y) ↔ (∃ r ∈ b, inR r x y) ∨ ∃ r ∈ a, inR r x y := fun b a => by
    constructor
    · rintro ⟨r, hr, hi⟩
      exact (List.mem_append.mp hr).elim (fun h => .inl ⟨r, h, hi⟩) fun h => .inr ⟨r, h, hi⟩
    · rintro (⟨r, hr, hi⟩ | ⟨r, hr, hi⟩)
      · exact ⟨r, List.mem_append.mpr (.inl hr), hi⟩
      · exact ⟨r, List.mem_append.mpr (.inr hr), hi⟩
  rw [e, e, h x y, g x y]
/-! even bodies -/
def evB (b : List Rc) : Bool := Fx.area (b ++ b.map quart) == Fx.area b
theorem is_even_ev (hb : okB b) : g_is_even [rcsD b] = some (.bool (evB b)) := by
  have l6 := hb.2.1
  obtain ⟨t1, t2⟩ := turned_by_ev b 1 (by omega) (by omega)
  have e1 : turnB b 1 = b.map quart := rfl
  rw [e1] at t1
  let P : C → S := fun c => ⟨[.val (rcsD b), c], none⟩
  have ad : addD (rcsD b) (rcsD (b.map quart)) = some (rcsD (b ++ b.map quart)) := by
    show (if (b.map rcD).length + ((b.map quart).map rcD).length ≤ 100000 then some (PyData.tuple (b.map rcD ++ (b.map quart).map rcD)) else none) = _
    rw [if_pos (by simp only [List.length_map]; omega), ← List.map_append]
  have c1 := cov_ev (c := rcsD (b ++ b.map quart)) (rs := b ++ b.map quart) rfl (bd_app (bd_okB hb) (bd_quart hb)) (by simp only [List.length_append, List.length_map]; omega)
  have c2 := cov_ev (c := rcsD b) (rs := b) rfl (bd_okB hb) (by omega)
  refine fnV_ev (rho := (P (.val (.int (Fx.area (b ++ b.map quart))))).rho) (sSeq_ev (s1 := P .no) (sExpr_ev (eFn_ev (xs := [rcsD b]) rfl rfl (look_body_ev b hb))) (sSeq_ev (s1 := P (.val (.int (Fx.area (b ++ b.map quart))))) (sSet_ev (s1 := P .no) (eFn_ev (xs := [rcsD (b ++ b.map quart)]) (aOne_ev (eBin_ev rfl (eFn_ev (xs := [rcsD b, .int 1]) rfl rfl t1) ad)) rfl c1)) (sRet_ev (eBin_ev rfl (eFn_ev (xs := [rcsD b]) rfl rfl c2) (eqZ_ev _ _)))))
theorem even_same (hb : okB b) (h : evB b = true) : SameQ b (b.map quart) := by
  have h : Fx.area (b ++ b.map quart) = Fx.area b := by simpa [evB] using h
  have e0 : ∀ k, k ∈ dd (b.flatMap sqL) ↔ ∃ r ∈ b, k ∈ sqL r := fun k => by rw [mem_dd, List.mem_flatMap]
  have e1 : ∀ k, k ∈ dd ((b ++ b.map quart).flatMap sqL) ↔ ∃ r ∈ b ++ b.map quart, k ∈ sqL r := fun k => by rw [mem_dd, List.mem_flatMap]
  have l0 := area_len (bd_okB hb) (nodup_dd (b.flatMap sqL)) e0
  have l1 := area_len (bd_app (bd_okB hb) (bd_quart hb)) (nodup_dd ((b ++ b.map quart).flatMap sqL)) e1
  have sub : ∀ x y, (∃ r ∈ b.map quart, inR r x y) → ∃ r ∈ b, inR r x y := fun x y ⟨r, hr, hi⟩ => by
    by_cases m : [x, y] ∈ dd (b.flatMap sqL)
    · obtain ⟨r', h1, h2⟩ := (e0 _).mp m
      exact ⟨r', h1, sq_cell.mp h2⟩
    · have := nodup_len (l := [x, y] :: dd (b.flatMap sqL)) (List.nodup_cons.mpr ⟨m, nodup_dd _⟩) (m := dd ((b ++ b.map quart).flatMap sqL)) fun k hk => by
        rcases List.mem_cons.mp hk with rfl | hk
        · exact (e1 _).mpr ⟨r, List.mem_append.mpr (.inr hr), sq_cell.mpr hi⟩
        · obtain ⟨r', h1, h2⟩ := (e0 _).mp hk
          exact (e1 _).mpr ⟨r', List.mem_append.mpr (.inl h1), h2⟩
      rw [List.length_cons] at this
      omega
  have rot : ∀ u v, (∃ r ∈ b, inR r u v) → ∃ r ∈ b, inR r (-v - 1) u := fun u v h => sub (-v - 1) u ((cell_quart b _ _).mpr (by rw [show -(-v - 1) - 1 = v by omega]; exact h))
  intro x y
  constructor
  · exact sub x y
  · intro h
    rw [cell_quart]
    have h1 := rot _ _ h
    have h2 := rot _ _ h1
    have h3 := rot _ _ h2
    rw [show -(-y - 1) - 1 = y by omega] at h3
    exact h3
end
theorem neI02 (n : Int) : neD (.int n) (.int n) = some (.bool false) := by rw [neZ_ev2]; simp
theorem neK2 (k l : List Int) : neD (kD k) (kD l) = some (.bool (!decide (k = l))) := by
  have := eqK_ev k l
  unfold eqD at this
  unfold neD
  split at this
  · rename_i hh
    rw [if_pos hh]
    have h2 : PyData.eqv (kD k) (kD l) = decide (k = l) := by injection this with h; injection h
    rw [h2]
  · cases this
theorem neRc02 (r : Rc) : neD (rcD r) (rcD r) = some (.bool false) := by
  have := neK2 [r.a, r.b, r.c, r.d] [r.a, r.b, r.c, r.d]
  rw [decide_eq_true rfl] at this
  exact this
theorem frame02 {b : List Rc} (hb : okB b) : g_frame [rcsD b] = some (.int (frm b)) :=
  fnV_ev (rho := [.val (rcsD b)]) (sSeq_ev (s1 := ⟨[.val (rcsD b)], none⟩) (sExpr_ev (eFn_ev (xs := [rcsD b]) rfl rfl (look_body_ev b hb))) (sRet_ev (eFn_ev (xs := [rcsD b]) rfl rfl (frame_of_ev b hb))))
theorem area02 {b : List Rc} (hb : okB b) : g_body_area [rcsD b] = some (.int (area b)) := by
  have cv := cov_ev (c := rcsD b) (rs := b) rfl (bd_okB hb) (by have := hb.2.1; omega)
  exact fnV_ev (rho := [.val (rcsD b)]) (sSeq_ev (s1 := ⟨[.val (rcsD b)], none⟩) (sExpr_ev (eFn_ev (xs := [rcsD b]) rfl rfl (look_body_ev b hb))) (sRet_ev (eFn_ev (xs := [rcsD b]) rfl rfl cv)))
def boxR (b : List Rc) : Rc := ⟨minI (b.map (·.a)), minI (b.map (·.b)), maxI (b.map (·.c)), maxI (b.map (·.d))⟩
theorem box_ev (b : List Rc) (hb : okB b) : g_body_box [rcsD b] = some (rcD (boxR b)) := by
  have hl : b.length ≤ 100000 := by have := hb.2.1; omega
  have hne : b ≠ [] := fun z => by have := hb.1; rw [z] at this; simp at this
  let Z : S := ⟨[.val (rcsD b), .no], none⟩
  have cm : ∀ (i : Int) (f : Rc → Int), (∀ r, ixD (rcD r) (.int i) = some (.int (f r))) → (eComp (iterS (eVar 0)) (gNm 1) (eC (.bool true)) [1] (pEmit (eBin ixD (eVar 1) (eC (.int i))))) Z = some (.list (b.map fun r => .int (f r)), Z) := fun i f hf =>
    map_ev0 b rcD (fun r => .int (f r)) (iterS_ev rfl rfl) rfl rfl (fun r _ => ⟨⟨[.val (rcsD b), .val (rcD r)], none⟩, rfl, eBin_ev rfl rfl (hf r), rfl⟩) hl
  have mnL : ∀ f : Rc → Int, minLD [.list (b.map fun r => .int (f r))] = some (.int (minI (b.map f))) := fun f => by
    show (intsD (b.map fun r => .int (f r))).bind _ = _
    rw [intsD_map, Option.bind_some, if_neg (fun z => hne (List.map_eq_nil_iff.mp z))]
  have mxL : ∀ f : Rc → Int, maxLD [.list (b.map fun r => .int (f r))] = some (.int (maxI (b.map f))) := fun f => by
    show (intsD (b.map fun r => .int (f r))).bind _ = _
    rw [intsD_map, Option.bind_some, if_neg (fun z => hne (List.map_eq_nil_iff.mp z))]
  have bo : g_box_of [rcsD b] = some (rcD ⟨minI (b.map (·.a)), minI (b.map (·.b)), maxI (b.map (·.c)), maxI (b.map (·.d))⟩) :=
    fnV_ev (rho := Z.rho) (sRet_ev (eTup_ev (aCons_ev (eCall_ev (aOne_ev (cm 0 (·.a) fun r => rfl)) (mnL _)) (aCons_ev (eCall_ev (aOne_ev (cm 1 (·.b) fun r => rfl)) (mnL _)) (aCons_ev (eCall_ev (aOne_ev (cm 2 (·.c) fun r => rfl)) (mxL _)) (aOne_ev (eCall_ev (aOne_ev (cm 3 (·.d) fun r => rfl)) (mxL _)))))) (by simp)))
  exact fnV_ev (rho := [.val (rcsD b)]) (sSeq_ev (s1 := ⟨[.val (rcsD b)], none⟩) (sExpr_ev (eFn_ev (xs := [rcsD b]) rfl rfl (look_body_ev b hb))) (sRet_ev (eFn_ev (xs := [rcsD b]) rfl rfl bo)))
end Fx
-- k02b
namespace Fx
open PySem PySem.Spec L2
theorem nodup_map02 {α β : Type} {f : α → β} : ∀ {l : List α}, (∀ x ∈ l, ∀ y ∈ l, f x = f y → x = y) → l.Nodup → (l.map f).Nodup
  | [], _, _ => List.Pairwise.nil
  | a :: l, h, nd => by
    obtain ⟨n1, n2⟩ := List.nodup_cons.mp nd
    rw [List.map_cons, List.nodup_cons]
    refine ⟨fun hm => ?_, nodup_map02 (fun x hx y hy => h x (List.mem_cons_of_mem _ hx) y (List.mem_cons_of_mem _ hy)) n2⟩
    obtain ⟨y, hy, e⟩ := List.mem_map.mp hm
    exact n1 (h y (List.mem_cons_of_mem _ hy) a List.mem_cons_self e ▸ hy)
theorem neB02 (b : List Rc) : neD (rcsD b) (rcsD b) = some (.bool false) := by
  have e : rcsD b = .tuple ((b.map fun r => [r.a, r.b, r.c, r.d]).map kD) := by
    rw [List.map_map]
    rfl
  rw [e]
  generalize (b.map fun r => [r.a, r.b, r.c, r.d]) = ks
  obtain ⟨h1, h2⟩ := rows_lay ks
  have sh : SeqAt.shaped (.tuple (ks.map kD)) = true := by
    unfold SeqAt.shaped
    simp only [Bool.and_eq_true, decide_eq_true_eq]
    refine ⟨by simp [PyData.canLay0, h1], ?_⟩
    simp only [PyData.depth]
    omega
  unfold neD
  rw [if_pos ⟨sh, sh⟩]
  show some (PyData.bool (!(PyData.eqvAll (ks.map kD) (ks.map kD)))) = _
  rw [eqv_rows]
  simp
theorem eqL02 (ks ls : List (List Int)) : eqD (.list (ks.map kD)) (.list (ls.map kD)) = some (.bool (decide (ks = ls))) := by
  unfold eqD
  rw [if_pos ⟨shaped_rows ks, shaped_rows ls⟩]
  show some (PyData.bool (PyData.eqvAll (ks.map kD) (ls.map kD))) = _
  rw [eqv_rows]
theorem neL02 (ks : List (List Int)) : neD (.list (ks.map kD)) (.list (ks.map kD)) = some (.bool false) := by
  unfold neD
  rw [if_pos ⟨shaped_rows ks, shaped_rows ks⟩]
  show some (PyData.bool (!PyData.eqvAll (ks.map kD) (ks.map kD))) = _
  rw [eqv_rows]
  simp
/-! what is drawn -/
def g02 (r : Rc) : Prop := -6 ≤ r.a ∧ r.a < r.c ∧ r.c ≤ 6 ∧ -6 ≤ r.b ∧ r.b < r.d ∧ r.d ≤ 6
def sm02 (b : List Rc) : Prop := 1 ≤ b.length ∧ b.length ≤ 3 ∧ ∀ r ∈ b, g02 r
theorem rect02 {tw : Tw} (h : okT tw) (c : Int) (hc : 1 ≤ c ∧ c ≤ 6) : ∃ r tw', g__law_rect tw [.int c] = some (rcD r, tw') ∧ g02 r ∧ okT tw' := by
  obtain ⟨n1, t1, e1, a1, b1, o1⟩ := draw h (2 * c) (by omega)
  obtain ⟨n2, t2, e2, a2, b2, o2⟩ := draw o1 (2 * c) (by omega)
  obtain ⟨n3, t3, e3, a3, b3, o3⟩ := draw o2 (c - (n1 - c)) (by omega)
  obtain ⟨n4, t4, e4, a4, b4, o4⟩ := draw o3 (c - (n2 - c)) (by omega)
  refine ⟨⟨n1 - c, n2 - c, n1 - c + 1 + n3, n2 - c + 1 + n4⟩, t4, ?_, by unfold g02; dsimp only; omega, o4⟩
  have z : (aCons (eBin mulD (eC (.int 2)) (eVar 1)) aNil) ⟨[.tn, .val (.int c), .no, .no], some tw⟩ = some ([.int (2 * c)], ⟨[.tn, .val (.int c), .no, .no], some tw⟩) := aOne_ev (eBin_ev rfl rfl (mulD_ev (.inl (by decide))))
  have z1 : (aCons (eBin mulD (eC (.int 2)) (eVar 1)) aNil) ⟨[.tn, .val (.int c), .no, .no], some t1⟩ = some ([.int (2 * c)], ⟨[.tn, .val (.int c), .no, .no], some t1⟩) := aOne_ev (eBin_ev rfl rfl (mulD_ev (.inl (by decide))))
  refine fnT_ex (ex_of (sSeq_ev (sPar_ev (aCons_ev (eBin_ev (eFnT_ev rfl z rfl e1) rfl rfl) (aOne_ev (eBin_ev (eFnT_ev rfl z1 rfl e2) rfl rfl)))) (sRet_ev (eTup_ev (aCons_ev rfl (aCons_ev rfl (aCons_ev (eBin_ev rfl (eFnT_ev rfl rfl rfl e3) rfl) (aOne_ev (eBin_ev rfl (eFnT_ev rfl rfl rfl e4) rfl))))) (by simp)))) rfl)
def L02 : List C := [.any, .tn, .no, .no, .no, .no, .no, .no, .no, .no, .no, .no]
theorem body02 {t : Tw} (ot : okT t) : ∃ (b : List Rc) (t' : Tw), (eComp (iterA range1D (aCons (eBin addD (eC (.int 1)) (eFnT 1 1 g__law_draw (aCons (eC (.int 3)) (aNil)))) (aNil))) (gNm 10) (eC (.bool true)) [10] (pEmit (eFnT 1 1 g__law_rect (aCons (eBin addD (eC (.int 1)) (eFnT 1 1 g__law_draw (aCons (eC (.int 6)) (aNil)))) (aNil))))) ⟨L02, some t⟩ = some (.list (b.map rcD), ⟨L02, some t'⟩) ∧ sm02 b ∧ okT t' := by
  obtain ⟨n, t1, e, a, z, o1⟩ := draw ot 3 (by decide)
  obtain ⟨b, t2, k1, k2, k3, k4⟩ := compT_ev (fi := iterA range1D (aCons (eBin addD (eC (.int 1)) (eFnT 1 1 g__law_draw (aCons (eC (.int 3)) (aNil)))) (aNil))) (g := gNm 10) (f := eFnT 1 1 g__law_rect (aCons (eBin addD (eC (.int 1)) (eFnT 1 1 g__law_draw (aCons (eC (.int 6)) (aNil)))) (aNil))) (vs := [10]) (l := L02) (t := t1) (s := ⟨L02, some t⟩) (xs := rng 0 (1 + n)) PyData.int rcD g02 o1 (by rw [rng_len]; omega) (range1_ev (aOne_ev (eBin_ev rfl (eFnT_ev rfl rfl rfl e) rfl)) (by omega)) rfl rfl (fun x _ t ht => by
    obtain ⟨m, u1, e1, a1, z1, p1⟩ := draw ht 6 (by decide)
    obtain ⟨r, u2, e2, gr, p2⟩ := rect02 p1 (1 + m) (by omega)
    exact ⟨_, r, u2, rfl, eFnT_ev rfl (aOne_ev (eBin_ev rfl (eFnT_ev rfl rfl rfl e1) rfl)) rfl e2, gr, p2, rfl⟩)
  rw [rng_len] at k2
  exact ⟨b, t2, k1, ⟨by omega, by omega, k3⟩, k4⟩
section
variable {b : List Rc}
theorem sm02.ok (h : sm02 b) : okB b := by
  obtain ⟨h1, h2, h3⟩ := h
  refine ⟨h1, by omega, fun r hr => ?_⟩
  have := h3 r hr
  unfold g02 at this
  omega
theorem sm02.quart (h : sm02 b) : sm02 (b.map Fx.quart) := by
  obtain ⟨h1, h2, h3⟩ := h
  refine ⟨by rw [List.length_map]; exact h1, by rw [List.length_map]; exact h2, fun r hr => ?_⟩
  obtain ⟨r0, h0, rfl⟩ := List.mem_map.mp hr
  have := h3 r0 h0
  unfold g02 at this ⊢
  unfold Fx.quart
  dsimp only
  omega
theorem turn_succ (b : List Rc) (k : Nat) : turnB b ((k + 1 : Nat) : Int) = (turnB b (k : Int)).map quart := by
  unfold turnB rng
  rw [show (((k + 1 : Nat) : Int) - 0).toNat = k + 1 by omega, show ((k : Int) - 0).toNat = k by omega, List.range_succ, List.map_append, List.foldl_append]
  rfl
theorem turn_zero (b : List Rc) : turnB b ((0 : Nat) : Int) = b := rfl
theorem turn_four (b : List Rc) : turnB b ((4 : Nat) : Int) = b := by
  rw [turn_succ, turn_succ, turn_succ, turn_succ, turn_zero, List.map_map, List.map_map, List.map_map]
  conv => rhs; rw [← List.map_id b]
  refine List.map_congr_left fun r _ => ?_
  show (⟨- -r.a, - -r.b, - -r.c, - -r.d⟩ : Rc) = id r
  cases r
  simp
theorem sm02.turn (h : sm02 b) : ∀ k : Nat, sm02 (turnB b (k : Int))
  | 0 => h
  | k + 1 => by rw [turn_succ]; exact (h.turn k).quart
theorem sm02.few (h : sm02 b) : (b.flatMap sqL).length ≤ 4000 ∧ (dd (b.flatMap sqL)).length ≤ 300 := by
  constructor
  · have q := flat_len (f := sqL) (m := 144) (xs := b) fun r hr => by
      have := h.2.2 r hr
      unfold g02 at this
      have h1 : (rng r.b r.d).length ≤ 12 := by rw [rng_len]; omega
      have h2 : (rng r.a r.c).length ≤ 12 := by rw [rng_len]; omega
      have q := flat_len (f := fun x => (rng r.b r.d).map fun y => [x, y]) (m := 12) (xs := rng r.a r.c) fun x _ => by rw [List.length_map]; exact h1
      unfold sqL
      omega
    have := h.2.1
    omega
  · have q := nodup_len (l := dd (b.flatMap sqL)) (m := sqL ⟨-6, -6, 6, 6⟩) (nodup_dd _) fun k hk => by
      rw [mem_dd, List.mem_flatMap] at hk
      obtain ⟨r, hr, hk⟩ := hk
      obtain ⟨x, y, rfl, h1⟩ := mem_sqL.mp hk
      have := h.2.2 r hr
      unfold g02 at this
      exact mem_sqL.mpr ⟨x, y, rfl, by show -6 ≤ x; omega, by show x < 6; omega, by show -6 ≤ y; omega, by show y < 6; omega⟩
    have : (sqL ⟨-6, -6, 6, 6⟩).length = 144 := by decide +kernel
    omega
theorem sm02.bd (h : sm02 b) : ∀ r ∈ b, -1000 ≤ r.a ∧ r.a ≤ 1000 ∧ -1000 ≤ r.b ∧ r.b ≤ 1000 ∧ -1000 ≤ r.c ∧ r.c ≤ 1000 ∧ -1000 ≤ r.d ∧ r.d ≤ 1000 := fun r hr => by
  have := h.2.2 r hr
  unfold g02 at this
  omega
theorem cells02 (h : sm02 b) : ∃ cs : List (List Int), g__law_cells [rcsD b] = some (.list (cs.map kD)) ∧ (∀ k, k ∈ cs ↔ ∃ r ∈ b, k ∈ sqL r) ∧ cs.length ≤ 300 ∧ cs.Nodup := cells_ev2 (c := rcsD b) b rfl h.bd h.few.1 h.few.2
/-! the squares, sorted -/
def can (b : List Rc) : List (List Int) := isort leR (dd (b.flatMap sqL))
theorem mem_can {k : List Int} : k ∈ can b ↔ ∃ r ∈ b, k ∈ sqL r := by
  unfold can
  rw [(isort_perm leR _).mem_iff, mem_dd, List.mem_flatMap]
theorem to_can {ks : List (List Int)} (nd : ks.Nodup) (hm : ∀ k, k ∈ ks ↔ ∃ r ∈ b, k ∈ sqL r) : ks.mergeSort leR = can b :=
  sort_same (le := leR) leR_tr leR_tot leR_anti nd fun k => by rw [hm, List.mem_flatMap]
theorem can_same {b b' : List Rc} : can b' = can b ↔ SameQ b b' := by
  constructor
  · intro e x y
    have := mem_can (b := b') (k := [x, y])
    rw [e, mem_can] at this
    constructor
    · rintro ⟨r, hr, hi⟩
      obtain ⟨r', h1, h2⟩ := this.mpr ⟨r, hr, sq_cell.mpr hi⟩
      exact ⟨r', h1, sq_cell.mp h2⟩
    · rintro ⟨r, hr, hi⟩
      obtain ⟨r', h1, h2⟩ := this.mp ⟨r, hr, sq_cell.mpr hi⟩
      exact ⟨r', h1, sq_cell.mp h2⟩
  · intro h
    rw [← to_can (b := b') (nodup_dd (b'.flatMap sqL)) fun k => by rw [mem_dd, List.mem_flatMap], ← to_can (b := b) (nodup_dd (b'.flatMap sqL)) fun k => by rw [mem_dd, List.mem_flatMap]; exact sameQ_sq h k]
theorem can_ne {k : List Int} (h : k ∈ can b) : k ≠ [] := by
  obtain ⟨r, _, hk⟩ := mem_can.mp h
  obtain ⟨x, y, rfl, _⟩ := mem_sqL.mp hk
  exact fun z => nomatch z
theorem sortCells02 {cs : List (List Int)} (nd : cs.Nodup) (hm : ∀ k, k ∈ cs ↔ ∃ r ∈ b, k ∈ sqL r) : sortedD [.list (cs.map kD)] = some (.list ((can b).map kD)) := by
  rw [sortedD_ev (ks := cs) (fun k hk => by
    obtain ⟨r, _, hk⟩ := (hm k).mp hk
    obtain ⟨x, y, rfl, _⟩ := mem_sqL.mp hk
    exact fun z => nomatch z), to_can nd hm]
theorem shape02 (h : sm02 b) (n : Nat) (hq : n ≤ 3) : g__law_shape [rcsD b, .int (n : Int)] = some (.list ((can (turnB b (n : Int))).map kD)) := by
  obtain ⟨cs, e1, e2, e3, e4⟩ := cells02 h
  have pr : ∀ {q : Nat} {ks : List (List Int)}, (∀ k, k ∈ ks ↔ ∃ r ∈ turnB b (q : Int), k ∈ sqL r) → ∃ ps : List (Int × Int), ks = ps.map fun p => [p.1, p.2] := fun hm => rows_pairs fun k hk => by
    obtain ⟨r, _, hk⟩ := (hm k).mp hk
    obtain ⟨x, y, rfl, _⟩ := mem_sqL.mp hk
    exact ⟨x, y, rfl⟩
  let Z (ks : List (List Int)) (c3 : C) : S := ⟨[.val (rcsD b), .val (.int (n : Int)), .val (.list (ks.map kD)), c3, .no, .no], none⟩
  have key : ∃ s', (sFor (iterA range1D (aCons (eVar 1) (aNil))) (gNm 3)
      (sThenFrz 2 (sSetF 2 (eComp (iterS (eVar 2)) (gTp 2 (gsCons (gNm 4) (gsCons (gNm 5) (gsNil)))) (eC (.bool true)) [4, 5] (pEmit (eTup (aCons (eBin subD (eBin subD (eC (.int 0)) (eVar 5)) (eC (.int 1))) (aCons (eVar 4) (aNil))))))))) (Z cs .no) = some (.next, s') ∧
      ∃ (ks : List (List Int)) (c3 : C), s' = Z ks c3 ∧ ks.length = cs.length ∧ ks.Nodup ∧ ∀ k, k ∈ ks ↔ ∃ r ∈ turnB b (((rng 0 (n : Int)).length : Nat) : Int), k ∈ sqL r := by
    refine for_pre (rng 0 (n : Int)) PyData.int (fun pre s' => ∃ (ks : List (List Int)) (c3 : C), s' = Z ks c3 ∧ ks.length = cs.length ∧ ks.Nodup ∧ ∀ k, k ∈ ks ↔ ∃ r ∈ turnB b ((pre.length : Nat) : Int), k ∈ sqL r) (s1 := Z cs .no) (range1_ev rfl (by omega)) ⟨cs, .no, rfl, rfl, e4, e2⟩ ?_
    rintro pre t suf _ _ ⟨ks, c3, rfl, hl, nd, hm⟩
    obtain ⟨ps, rfl⟩ := pr (q := pre.length) hm
    have ee : Z (ps.map fun p => [p.1, p.2]) (.val (.int t)) = ⟨[.val (rcsD b), .val (.int (n : Int)), .val (.list (ps.map fun p => kD [p.1, p.2])), .val (.int t), .no, .no], none⟩ := by
      show (⟨[_, _, .val (.list ((ps.map fun p => [p.1, p.2]).map kD)), _, _, _], none⟩ : S) = _
      rw [List.map_map]
      rfl
    rw [List.length_map] at hl
    have qq := map_ev (fi := iterS (eVar 2)) (g := gTp 2 (gsCons (gNm 4) (gsCons (gNm 5) (gsNil)))) (f := eTup (aCons (eBin subD (eBin subD (eC (.int 0)) (eVar 5)) (eC (.int 1))) (aCons (eVar 4) (aNil)))) (vs := [4, 5]) (s := ⟨[.val (rcsD b), .val (.int (n : Int)), .val (.list (ps.map fun p => kD [p.1, p.2])), .val (.int t), .no, .no], none⟩) ps (fun p => kD [p.1, p.2]) (fun p => kD [0 - p.2 - 1, p.1]) rfl rfl rfl (fun p _ => ⟨_, rfl, rfl, rfl⟩) (by omega)
    rw [← ee] at qq
    refine ⟨Z (ps.map fun p => [p.1, p.2]) (.val (.int t)), _, rfl, .inl (sThenFrz_ev (sSetF_ev qq (by simp [Z])) rfl), ps.map fun p => [0 - p.2 - 1, p.1], .val (.int t), ?_, by rw [List.length_map]; exact hl, ?_, fun k => ?_⟩
    · show (⟨[_, _, .val (.list (ps.map fun p => kD [0 - p.2 - 1, p.1])), _, _, _], none⟩ : S) = ⟨[_, _, .val (.list ((ps.map fun p => [0 - p.2 - 1, p.1]).map kD)), _, _, _], none⟩
      rw [List.map_map]
      rfl
    · have nd2 : ps.Nodup := by
        refine List.Pairwise.imp (fun h e => h (by rw [e])) (List.pairwise_map.mp nd)
      refine nodup_map02 (fun p _ q _ e => ?_) nd2
      injection e with e1 e2
      injection e2 with e2
      exact Prod.ext e2 (by omega)
    · rw [List.length_append, List.length_singleton, turn_succ, List.mem_map]
      have hm' : ∀ x y, (x, y) ∈ ps ↔ ∃ r ∈ turnB b ((pre.length : Nat) : Int), inR r x y := fun x y => by
        rw [← mem_pairs, hm]
        constructor
        · rintro ⟨r, hr, hk⟩
          exact ⟨r, hr, sq_cell.mp hk⟩
        · rintro ⟨r, hr, hk⟩
          exact ⟨r, hr, sq_cell.mpr hk⟩
      constructor
      · rintro ⟨⟨u, v⟩, hp, rfl⟩
        obtain ⟨r, hr, hin⟩ := (hm' u v).mp hp
        refine ⟨quart r, List.mem_map.mpr ⟨r, hr, rfl⟩, sq_cell.mpr (sq_quart.mpr ?_)⟩
        rw [show -(0 - v - 1) - 1 = v by omega]
        exact hin
      · rintro ⟨r, hr, hk⟩
        obtain ⟨r0, hr0, rfl⟩ := List.mem_map.mp hr
        obtain ⟨x, y, rfl, _⟩ := mem_sqL.mp hk
        have := sq_quart.mp (sq_cell.mp hk)
        refine ⟨(y, -x - 1), (hm' y (-x - 1)).mpr ⟨r0, hr0, this⟩, ?_⟩
        show [0 - (-x - 1) - 1, y] = [x, y]
        rw [show 0 - (-x - 1) - 1 = x by omega]
  obtain ⟨s', k1, ks, c3, rfl, hl, nd, hm⟩ := key
  rw [rng_len, show ((((n : Int) - 0).toNat : Nat) : Int) = (n : Int) by omega] at hm
  exact fnV_ev (rho := (Z ks c3).rho) (sSeq_ev (s1 := Z cs .no) (sSet_ev (s1 := st0 6 [rcsD b, .int (n : Int)]) (eFn_ev (xs := [rcsD b]) rfl rfl e1)) (sSeq_ev k1 (sRet_ev (eCall_ev (xs := [.list (ks.map kD)]) rfl (sortCells02 nd hm)))))
/-! even bodies, by their squares -/
theorem evB_can (hb : okB b) : evB b = decide (can (b.map quart) = can b) := by
  cases h : evB b with
  | true =>
    rw [decide_eq_true (can_same.mpr (even_same hb h))]
  | false =>
    rw [decide_eq_false]
    intro e
    have s : SameQ b (b.map quart) := (can_same.mp e).symm.symm
    have a : Fx.area (b ++ b.map quart) = Fx.area b := area_same (bd_okB hb) (bd_app (bd_okB hb) (bd_quart hb)) fun k => by
      have q := sameQ_sq s k
      constructor
      · rintro ⟨r, hr, hk⟩
        rcases List.mem_append.mp hr with hr | hr
        · exact ⟨r, hr, hk⟩
        · exact q.mp ⟨r, hr, hk⟩
      · rintro ⟨r, hr, hk⟩
        exact ⟨r, List.mem_append.mpr (.inl hr), hk⟩
    unfold evB at h
    rw [a] at h
    simp at h
end
theorem even_lit : g_is_even [rcsD [⟨-1, -1, 1, 1⟩]] = some (.bool true) := by
  have hb : okB [⟨-1, -1, 1, 1⟩] := ⟨by decide, by decide, fun r hr => by rw [List.mem_singleton] at hr; subst hr; decide⟩
  rw [is_even_ev hb, evB_can hb, decide_eq_true]
  refine can_same.mpr fun x y => ?_
  rw [cell_quart]
  unfold inR
  simp only [List.mem_singleton, exists_eq_left]
  omega
end Fx
-- k02m
namespace Fx
open PySem PySem.Spec L2
def P02 (c2 c3 c4 c5 c6 c7 c8 c9 : C) (t : Tw) : S := ⟨[.any, .tn, c2, c3, c4, c5, c6, c7, c8, c9, .no, .no], some t⟩
def okC (c : C) : Prop := c = .no ∨ ∃ d, c = .val d
section
variable {b : List Rc} {t : Tw}
theorem abs_quart {n : Int} {r : Rc} : n ∈ absR (quart r) ↔ n ∈ absR r := by
  have e : ∀ x : Int, abI (-x) = abI x := fun x => by unfold abI; split <;> split <;> omega
  unfold absR quart
  dsimp only
  rw [e, e]
  simp only [List.mem_cons, List.not_mem_nil, or_false]
  constructor
  · rintro (h | h | h | h) <;> simp [h]
  · rintro (h | h | h | h) <;> simp [h]
theorem abs_turn {n : Int} : ∀ k : Nat, (∃ r ∈ turnB b (k : Int), n ∈ absR r) ↔ ∃ r ∈ b, n ∈ absR r
  | 0 => Iff.rfl
  | k + 1 => by
    rw [turn_succ, ← abs_turn k]
    constructor
    · rintro ⟨r, hr, h⟩
      obtain ⟨r0, h0, rfl⟩ := List.mem_map.mp hr
      exact ⟨r0, h0, abs_quart.mp h⟩
    · rintro ⟨r, hr, h⟩
      exact ⟨_, List.mem_map.mpr ⟨r, hr, rfl⟩, abs_quart.mpr h⟩
theorem reach02 (hb : okB b) (k : Nat) {m : Int} (hm : m = 0 ∨ m = frm b) : (turnB b (k : Int)).foldl (fun m r => maxI (m :: absR r)) m = frm b := by
  obtain ⟨h1, h2, h3⟩ := reach_fold (turnB b (k : Int)) m
  obtain ⟨f1, r, hr, f2⟩ := frm_spec hb
  have f0 := (frm_bd hb).1
  obtain ⟨r', hr', g2⟩ := (abs_turn k).mpr ⟨r, hr, f2⟩
  have a1 := h2 r' hr' _ g2
  have a2 : (turnB b (k : Int)).foldl (fun m r => maxI (m :: absR r)) m ≤ frm b := by
    rcases h3 with h3 | h3
    · rw [h3]
      rcases hm with e | e <;> rw [e]
      · exact f0
      · exact Int.le_refl _
    · obtain ⟨s, hs, h3⟩ := (abs_turn k).mp h3
      have := f1 s hs
      rcases mem_absR h3 with e | e | e | e <;> rw [e] <;> omega
  omega
def inB : Fs := sSet 4 (eCall maxLD (aCons (eBin catD (eLst (aCons (eVar 4) (aNil))) (eComp (iterS (eVar 9)) (gNm 11) (eC (.bool true)) [11] (pEmit (eCall max2D (aCons (eVar 11) (aCons (eBin subD (eC (.int 0)) (eVar 11)) (aNil))))))) (aNil)))
theorem inner02 (rs : List Rc) (m : Int) (c2 c3 c5 c9 : C) (h9 : okC c9) : ∃ s', (sFor (iterS (eVar 8)) (gNm 9) inB) (P02 c2 c3 (.val (.int m)) c5 .no .no (.val (rcsD rs)) c9 t) = some (.next, s') ∧ ∃ c9', s' = P02 c2 c3 (.val (.int (rs.foldl (fun m r => maxI (m :: absR r)) m))) c5 .no .no (.val (rcsD rs)) c9' t ∧ okC c9' := by
  refine for_inv rs rcD (fun (m : Int) s => ∃ c9', s = P02 c2 c3 (.val (.int m)) c5 .no .no (.val (rcsD rs)) c9' t ∧ okC c9') (fun m r => maxI (m :: absR r)) (b := m) rfl ⟨_, rfl, h9⟩ ?_
  rintro m _ r _ ⟨c9', rfl, _⟩
  have q := map_ev (fi := iterS (eVar 9)) (g := gNm 11) (f := eCall max2D (aCons (eVar 11) (aCons (eBin subD (eC (.int 0)) (eVar 11)) (aNil)))) (vs := [11]) (s := P02 c2 c3 (.val (.int m)) c5 .no .no (.val (rcsD rs)) (.val (rcD r)) t) [r.a, r.b, r.c, r.d] PyData.int (fun n => .int (abI n)) rfl rfl rfl (fun n _ => ⟨_, rfl, eCall_ev rfl (by
    show some (PyData.int (if 0 - n > n then 0 - n else n)) = some (PyData.int (abI n))
    unfold abI
    congr 2
    split <;> split <;> omega), rfl⟩) (by simp)
  exact ⟨_, _, rfl, .inl (sSet_ev (eCall_ev (aOne_ev (eBin_ev rfl q (catD_ev (by simp)))) rfl)), .val (rcD r), rfl, .inr ⟨_, rfl⟩⟩
theorem turn1 (h : sm02 b) : g_turned [rcsD b, .int 1] = some (rcsD (b.map quart)) := turned_ev b 1 h.ok (by omega)
def stB : Fs := sSeq (sSet 8 (eFn 2 g_turned (aCons (eVar 2) (aCons (eVar 5) (aNil)))))
  (sSeq (sIf (eOr (eBin neD (eVar 8) (eVar 3)) (eOr (eBin neD (eCall sortedD (aCons (eFn 1 g__law_cells (aCons (eVar 8) (aNil))) (aNil))) (eFn 2 g__law_shape (aCons (eVar 2) (aCons (eVar 5) (aNil))))) (eBin isntD (eFn 1 g_is_body (aCons (eVar 8) (aNil))) (eC (.bool true)))))
  (sRet (eC (.bool false)))
  (sNext))
  (sSeq (sFor (iterS (eVar 8)) (gNm 9) inB)
  (sSet 3 (eFn 2 g_turned (aCons (eVar 3) (aCons (eC (.int 1)) (aNil)))))))
theorem step02 (h : sm02 b) (k : Nat) (hk : k ≤ 3) {m : Int} (hm : m = 0 ∨ m = frm b) (c8 c9 : C) (h9 : okC c9) : ∃ s', stB (P02 (.val (rcsD b)) (.val (rcsD (turnB b (k : Int)))) (.val (.int m)) (.val (.int (k : Int))) .no .no c8 c9 t) = some (.next, s') ∧ ∃ c8' c9', s' = P02 (.val (rcsD b)) (.val (rcsD (turnB b ((k + 1 : Nat) : Int)))) (.val (.int (frm b))) (.val (.int (k : Int))) .no .no c8' c9' t ∧ okC c9' := by
  obtain ⟨cs, e1, e2, _, e4⟩ := cells02 (h.turn k)
  have td := turned_ev b (k : Int) h.ok (by omega)
  obtain ⟨s1, k1, c9', rfl, o9⟩ := inner02 (t := t) (turnB b (k : Int)) m (.val (rcsD b)) (.val (rcsD (turnB b (k : Int)))) (.val (.int (k : Int))) c9 h9
  rw [reach02 h.ok k hm] at k1
  have t1 := turn1 (h.turn k)
  rw [← turn_succ] at t1
  let A : S := P02 (.val (rcsD b)) (.val (rcsD (turnB b (k : Int)))) (.val (.int m)) (.val (.int (k : Int))) .no .no c8 c9 t
  let B : S := P02 (.val (rcsD b)) (.val (rcsD (turnB b (k : Int)))) (.val (.int m)) (.val (.int (k : Int))) .no .no (.val (rcsD (turnB b (k : Int)))) c9 t
  let D : S := P02 (.val (rcsD b)) (.val (rcsD (turnB b (k : Int)))) (.val (.int (frm b))) (.val (.int (k : Int))) .no .no (.val (rcsD (turnB b (k : Int)))) c9' t
  have a1 : (sSet 8 (eFn 2 g_turned (aCons (eVar 2) (aCons (eVar 5) (aNil))))) A = some (.next, B) := sSet_ev (s1 := A) (eFn_ev (xs := [rcsD b, .int (k : Int)]) rfl rfl td)
  have a2 : (eOr (eBin neD (eVar 8) (eVar 3)) (eOr (eBin neD (eCall sortedD (aCons (eFn 1 g__law_cells (aCons (eVar 8) (aNil))) (aNil))) (eFn 2 g__law_shape (aCons (eVar 2) (aCons (eVar 5) (aNil))))) (eBin isntD (eFn 1 g_is_body (aCons (eVar 8) (aNil))) (eC (.bool true))))) B = some (.bool false, B) :=
    eOr_ev (p := false) (q := false) (eBin_ev (s1 := B) rfl rfl (neB02 _)) fun _ => eOr_ev (p := false) (q := false) (eBin_ev (s1 := B) (s2 := B) (eCall_ev (aOne_ev (eFn_ev (xs := [rcsD (turnB b (k : Int))]) rfl rfl e1)) (sortCells02 e4 e2)) (eFn_ev (xs := [rcsD b, .int (k : Int)]) rfl rfl (shape02 h k hk)) (neL02 _)) fun _ => eBin_ev (s1 := B) (s2 := B) (eFn_ev (xs := [rcsD (turnB b (k : Int))]) rfl rfl (is_body_ev _ (h.turn k).ok)) rfl rfl
  have a3 : (sSet 3 (eFn 2 g_turned (aCons (eVar 3) (aCons (eC (.int 1)) (aNil))))) D = some (.next, P02 (.val (rcsD b)) (.val (rcsD (turnB b ((k + 1 : Nat) : Int)))) (.val (.int (frm b))) (.val (.int (k : Int))) .no .no (.val (rcsD (turnB b (k : Int)))) c9' t) := sSet_ev (s1 := D) (eFn_ev (xs := [rcsD (turnB b (k : Int)), .int 1]) rfl rfl t1)
  exact ⟨_, sSeq_ev a1 (sSeq_ev (sIf_f a2 rfl) (sSeq_ev k1 a3)), _, _, rfl, o9⟩
theorem loop02 (h : sm02 b) : ∃ s', (sFor (iterA range1D (aCons (eC (.int 4)) (aNil))) (gNm 5) stB) (P02 (.val (rcsD b)) (.val (rcsD b)) (.val (.int 0)) .no .no .no .no .no t) = some (.next, s') ∧ ∃ c5 c8 c9, s' = P02 (.val (rcsD b)) (.val (rcsD b)) (.val (.int (frm b))) c5 .no .no c8 c9 t ∧ okC c9 := by
  obtain ⟨s', k1, m, c5, c8, c9, rfl, hm, hm4, o9⟩ : ∃ s', (sFor (iterA range1D (aCons (eC (.int 4)) (aNil))) (gNm 5) stB) (P02 (.val (rcsD b)) (.val (rcsD b)) (.val (.int 0)) .no .no .no .no .no t) = some (.next, s') ∧ ∃ m c5 c8 c9, s' = P02 (.val (rcsD b)) (.val (rcsD (turnB b (((rng 0 4).length : Nat) : Int)))) (.val (.int m)) c5 .no .no c8 c9 t ∧ (m = 0 ∨ m = frm b) ∧ (0 < (rng 0 4).length → m = frm b) ∧ okC c9 := by
    refine for_pre (rng 0 4) PyData.int (fun pre s' => ∃ m c5 c8 c9, s' = P02 (.val (rcsD b)) (.val (rcsD (turnB b ((pre.length : Nat) : Int)))) (.val (.int m)) c5 .no .no c8 c9 t ∧ (m = 0 ∨ m = frm b) ∧ (0 < pre.length → m = frm b) ∧ okC c9) (s1 := P02 (.val (rcsD b)) (.val (rcsD b)) (.val (.int 0)) .no .no .no .no .no t) (range1_ev rfl (by decide)) ⟨0, .no, .no, .no, rfl, .inl rfl, fun z => absurd z (Nat.lt_irrefl 0), .inl rfl⟩ ?_
    rintro pre x suf _ hall ⟨m, c5, c8, c9, rfl, hm, _, o9⟩
    have hx := rng_idx hall
    rw [show (0 : Int) + ((pre.length : Nat) : Int) = ((pre.length : Nat) : Int) by omega] at hx
    subst hx
    have hk : pre.length ≤ 3 := by
      have := congrArg List.length hall
      rw [rng_len, List.length_append, List.length_cons] at this
      omega
    obtain ⟨s', k1, c8', c9', rfl, o9'⟩ := step02 (t := t) h pre.length hk hm c8 c9 o9
    refine ⟨_, _, rfl, .inl k1, frm b, .val (.int ((pre.length : Nat) : Int)), c8', c9', ?_, .inr rfl, fun _ => rfl, o9'⟩
    rw [List.length_append, List.length_singleton]
  refine ⟨_, k1, c5, c8, c9, ?_, o9⟩
  rw [show (((rng 0 4).length : Nat) : Int) = ((4 : Nat) : Int) from rfl, turn_four, hm4 (by decide)]
/-! the end -/
theorem minL02 (hne : b ≠ []) (f : Rc → Int) : minLD [.list (b.map fun r => .int (f r))] = some (.int (minI (b.map f))) := by
  show (intsD (b.map fun r => .int (f r))).bind _ = _
  rw [intsD_map, Option.bind_some, if_neg (fun z => hne (List.map_eq_nil_iff.mp z))]
theorem maxL02 (hne : b ≠ []) (f : Rc → Int) : maxLD [.list (b.map fun r => .int (f r))] = some (.int (maxI (b.map f))) := by
  show (intsD (b.map fun r => .int (f r))).bind _ = _
  rw [intsD_map, Option.bind_some, if_neg (fun z => hne (List.map_eq_nil_iff.mp z))]
theorem comp02 (hl : b.length ≤ 100000) (i : Int) (f : Rc → Int) (hf : ∀ r, ixD (rcD r) (.int i) = some (.int (f r))) (c3 c4 c5 c6 c7 c8 c9 : C) (h9 : okC c9) : (eComp (iterS (eVar 2)) (gNm 9) (eC (.bool true)) [9] (pEmit (eBin ixD (eVar 9) (eC (.int i))))) (P02 (.val (rcsD b)) c3 c4 c5 c6 c7 c8 c9 t) = some (.list (b.map fun r => .int (f r)), P02 (.val (rcsD b)) c3 c4 c5 c6 c7 c8 c9 t) := by
  rcases h9 with rfl | ⟨d, rfl⟩
  · exact map_ev b rcD (fun r => .int (f r)) (iterS_ev rfl rfl) rfl rfl (fun r _ => ⟨P02 (.val (rcsD b)) c3 c4 c5 c6 c7 c8 (.val (rcD r)) t, rfl, eBin_ev rfl rfl (hf r), rfl⟩) hl
  · exact map_ev b rcD (fun r => .int (f r)) (iterS_ev rfl rfl) rfl rfl (fun r _ => ⟨P02 (.val (rcsD b)) c3 c4 c5 c6 c7 c8 (.val (rcD r)) t, rfl, eBin_ev rfl rfl (hf r), rfl⟩) hl
def tlB : Fs := sSeq (sIf (eOr (eBin neD (eVar 3) (eVar 2)) (eOr (eBin neD (eFn 1 g_frame (aCons (eVar 2) (aNil))) (eVar 4)) (eBin neD (eFn 2 g_turned (aCons (eFn 2 g_turned (aCons (eVar 2) (aCons (eC (.int 2)) (aNil)))) (aCons (eC (.int 2)) (aNil)))) (eVar 2))))
  (sRet (eC (.bool false)))
  (sNext))
  (sSeq (sSet 6 (eTup (aCons (eCall minLD (aCons (eComp (iterS (eVar 2)) (gNm 9) (eC (.bool true)) [9] (pEmit (eBin ixD (eVar 9) (eC (.int 0))))) (aNil))) (aCons (eCall minLD (aCons (eComp (iterS (eVar 2)) (gNm 9) (eC (.bool true)) [9] (pEmit (eBin ixD (eVar 9) (eC (.int 1))))) (aNil))) (aNil)))))
  (sSeq (sSet 7 (eTup (aCons (eCall maxLD (aCons (eComp (iterS (eVar 2)) (gNm 9) (eC (.bool true)) [9] (pEmit (eBin ixD (eVar 9) (eC (.int 2))))) (aNil))) (aCons (eCall maxLD (aCons (eComp (iterS (eVar 2)) (gNm 9) (eC (.bool true)) [9] (pEmit (eBin ixD (eVar 9) (eC (.int 3))))) (aNil))) (aNil)))))
  (sSeq (sIf (eOr (eBin neD (eFn 1 g_body_box (aCons (eVar 2) (aNil))) (eBin addD (eVar 6) (eVar 7))) (eBin neD (eFn 1 g_turned_body (aCons (eVar 2) (aNil))) (eFn 2 g_turned (aCons (eVar 2) (aCons (eC (.int 1)) (aNil))))))
  (sRet (eC (.bool false)))
  (sNext))
  (sRet (eAnd (eFn 2 g__law_is (aCons (eFn 1 g_is_even (aCons (eVar 2) (aNil))) (aCons (eBin eqD (eFn 2 g__law_shape (aCons (eVar 2) (aCons (eC (.int 1)) (aNil)))) (eFn 2 g__law_shape (aCons (eVar 2) (aCons (eC (.int 0)) (aNil))))) (aNil)))) (eBin isND (eFn 1 g_is_even (aCons (eTup (aCons (eTup (aCons (eBin subD (eC (.int 0)) (eC (.int 1))) (aCons (eBin subD (eC (.int 0)) (eC (.int 1))) (aCons (eC (.int 1)) (aCons (eC (.int 1)) (aNil)))))) (aNil))) (aNil))) (eC (.bool true))))))))
theorem turned_body02 (h : sm02 b) : g_turned_body [rcsD b] = some (rcsD (b.map quart)) := by
  have t1 := (turned_by_ev b 1 (by omega) (by have := h.2.1; omega)).1
  exact fnV_ev (rho := [.val (rcsD b)]) (sSeq_ev (s1 := ⟨[.val (rcsD b)], none⟩) (sExpr_ev (eFn_ev (xs := [rcsD b]) rfl rfl (look_body_ev b h.ok))) (sRet_ev (eFn_ev (xs := [rcsD b, .int 1]) rfl rfl t1)))
theorem tail02 (h : sm02 b) (c5 c8 c9 : C) (h9 : okC c9) : ∃ s', tlB (P02 (.val (rcsD b)) (.val (rcsD b)) (.val (.int (frm b))) c5 .no .no c8 c9 t) = some (.ret (.bool true), s') := by
  have hb := h.ok
  have hne : b ≠ [] := fun z => by have := hb.1; rw [z] at this; simp at this
  have hl : b.length ≤ 100000 := by have := hb.2.1; omega
  let L : D := .tuple [.int (minI (b.map (·.a))), .int (minI (b.map (·.b)))]
  let M : D := .tuple [.int (maxI (b.map (·.c))), .int (maxI (b.map (·.d)))]
  let A : S := P02 (.val (rcsD b)) (.val (rcsD b)) (.val (.int (frm b))) c5 .no .no c8 c9 t
  let B : S := P02 (.val (rcsD b)) (.val (rcsD b)) (.val (.int (frm b))) c5 (.val L) .no c8 c9 t
  let E : S := P02 (.val (rcsD b)) (.val (rcsD b)) (.val (.int (frm b))) c5 (.val L) (.val M) c8 c9 t
  have t2 : g_turned [rcsD b, .int 2] = some (rcsD (turnB b ((2 : Nat) : Int))) := turned_ev b 2 hb (by omega)
  have t4 : g_turned [rcsD (turnB b ((2 : Nat) : Int)), .int 2] = some (rcsD b) := by
    have q := turned_ev (turnB b ((2 : Nat) : Int)) 2 (h.turn 2).ok (by omega)
    have e : turnB (turnB b ((2 : Nat) : Int)) 2 = b := turn_four b
    rw [e] at q
    exact q
  have a1 : (eOr (eBin neD (eVar 3) (eVar 2)) (eOr (eBin neD (eFn 1 g_frame (aCons (eVar 2) (aNil))) (eVar 4)) (eBin neD (eFn 2 g_turned (aCons (eFn 2 g_turned (aCons (eVar 2) (aCons (eC (.int 2)) (aNil)))) (aCons (eC (.int 2)) (aNil)))) (eVar 2)))) A = some (.bool false, A) :=
    eOr_ev (p := false) (q := false) (eBin_ev (s1 := A) rfl rfl (neB02 _)) fun _ => eOr_ev (p := false) (q := false) (eBin_ev (s1 := A) (s2 := A) (eFn_ev (xs := [rcsD b]) rfl rfl (frame02 hb)) rfl (neI02 _)) fun _ => eBin_ev (s1 := A) (s2 := A) (eFn_ev (xs := [rcsD (turnB b ((2 : Nat) : Int)), .int 2]) (aCons_ev (s1 := A) (eFn_ev (xs := [rcsD b, .int 2]) rfl rfl t2) rfl) rfl t4) rfl (neB02 _)
  have a2 : (sSet 6 (eTup (aCons (eCall minLD (aCons (eComp (iterS (eVar 2)) (gNm 9) (eC (.bool true)) [9] (pEmit (eBin ixD (eVar 9) (eC (.int 0))))) (aNil))) (aCons (eCall minLD (aCons (eComp (iterS (eVar 2)) (gNm 9) (eC (.bool true)) [9] (pEmit (eBin ixD (eVar 9) (eC (.int 1))))) (aNil))) (aNil))))) A = some (.next, B) :=
    sSet_ev (s1 := A) (eTup_ev (aCons_ev (eCall_ev (aOne_ev (comp02 hl 0 (·.a) (fun r => rfl) _ _ _ _ _ _ _ h9)) (minL02 hne _)) (aOne_ev (eCall_ev (aOne_ev (comp02 hl 1 (·.b) (fun r => rfl) _ _ _ _ _ _ _ h9)) (minL02 hne _)))) (by simp))
  have a3 : (sSet 7 (eTup (aCons (eCall maxLD (aCons (eComp (iterS (eVar 2)) (gNm 9) (eC (.bool true)) [9] (pEmit (eBin ixD (eVar 9) (eC (.int 2))))) (aNil))) (aCons (eCall maxLD (aCons (eComp (iterS (eVar 2)) (gNm 9) (eC (.bool true)) [9] (pEmit (eBin ixD (eVar 9) (eC (.int 3))))) (aNil))) (aNil))))) B = some (.next, E) :=
    sSet_ev (s1 := B) (eTup_ev (aCons_ev (eCall_ev (aOne_ev (comp02 hl 2 (·.c) (fun r => rfl) _ _ _ _ _ _ _ h9)) (maxL02 hne _)) (aOne_ev (eCall_ev (aOne_ev (comp02 hl 3 (·.d) (fun r => rfl) _ _ _ _ _ _ _ h9)) (maxL02 hne _)))) (by simp))
  have a4 : (eOr (eBin neD (eFn 1 g_body_box (aCons (eVar 2) (aNil))) (eBin addD (eVar 6) (eVar 7))) (eBin neD (eFn 1 g_turned_body (aCons (eVar 2) (aNil))) (eFn 2 g_turned (aCons (eVar 2) (aCons (eC (.int 1)) (aNil)))))) E = some (.bool false, E) :=
    eOr_ev (p := false) (q := false) (eBin_ev (s1 := E) (s2 := E) (eFn_ev (xs := [rcsD b]) rfl rfl (box_ev b hb)) (eBin_ev (s1 := E) (s2 := E) rfl rfl (addT_ev _ _ (by simp))) (neRc02 (boxR b))) fun _ => eBin_ev (s1 := E) (s2 := E) (eFn_ev (xs := [rcsD b]) rfl rfl (turned_body02 h)) (eFn_ev (xs := [rcsD b, .int 1]) rfl rfl (turn1 h)) (neB02 _)
  have s1 := shape02 h 1 (by omega)
  have s0 := shape02 h 0 (by omega)
  have ev := is_even_ev hb
  rw [evB_can hb] at ev
  have eq := eqL02 (can (turnB b ((1 : Nat) : Int))) (can (turnB b ((0 : Nat) : Int)))
  rw [show turnB b ((1 : Nat) : Int) = b.map quart from turn_succ b 0, show turnB b ((0 : Nat) : Int) = b from rfl] at eq
  rw [show turnB b ((1 : Nat) : Int) = b.map quart from turn_succ b 0] at s1
  rw [show turnB b ((0 : Nat) : Int) = b from rfl] at s0
  generalize decide (can (b.map quart) = can b) = p at ev eq
  have a5 : (eAnd (eFn 2 g__law_is (aCons (eFn 1 g_is_even (aCons (eVar 2) (aNil))) (aCons (eBin eqD (eFn 2 g__law_shape (aCons (eVar 2) (aCons (eC (.int 1)) (aNil)))) (eFn 2 g__law_shape (aCons (eVar 2) (aCons (eC (.int 0)) (aNil))))) (aNil)))) (eBin isND (eFn 1 g_is_even (aCons (eTup (aCons (eTup (aCons (eBin subD (eC (.int 0)) (eC (.int 1))) (aCons (eBin subD (eC (.int 0)) (eC (.int 1))) (aCons (eC (.int 1)) (aCons (eC (.int 1)) (aNil)))))) (aNil))) (aNil))) (eC (.bool true)))) E = some (.bool true, E) :=
    eAnd_ev (p := true) (q := true) (eFn_ev (xs := [.bool p, .bool p]) (aCons_ev (s1 := E) (eFn_ev (xs := [rcsD b]) rfl rfl ev) (aOne_ev (eBin_ev (s1 := E) (s2 := E) (eFn_ev (xs := [rcsD b, .int ((1 : Nat) : Int)]) rfl rfl s1) (eFn_ev (xs := [rcsD b, .int ((0 : Nat) : Int)]) rfl rfl s0) eq))) rfl (law_is_ev p)) fun _ => eBin_ev (s1 := E) (s2 := E) (eFn_ev (xs := [rcsD [⟨-1, -1, 1, 1⟩]]) rfl rfl even_lit) rfl rfl
  exact ⟨E, sSeq_ev (sIf_f a1 rfl) (sSeq_ev a2 (sSeq_ev a3 (sSeq_ev (sIf_f a4 rfl) (sRet_ev a5))))⟩
end
theorem law_true (ns : List Int) (h63 : ns.length ≤ 63) : isTrueOut (B_law (stLaw 12 ns)) = true := by
  have ot : okT (rowOf ns, 0) := by
    unfold okT rowOf
    dsimp only
    split
    · exact fun z => nomatch z
    · assumption
  obtain ⟨b, t2, k1, h, _⟩ := body02 ot
  obtain ⟨cs, e1, e2, e3, e4⟩ := cells02 h
  have hb := h.ok
  have al := area_len (bd_okB hb) e4 e2
  obtain ⟨s', k2, c5, c8, c9, rfl, o9⟩ := loop02 (t := t2) h
  obtain ⟨s2, k3⟩ := tail02 (t := t2) h c5 c8 c9 o9
  let A : S := P02 (.val (rcsD b)) .no .no .no .no .no .no .no t2
  let B : S := P02 (.val (rcsD b)) (.val (rcsD b)) .no .no .no .no .no .no t2
  let E : S := P02 (.val (rcsD b)) (.val (rcsD b)) (.val (.int 0)) .no .no .no .no .no t2
  have tu : tupD [.list (b.map rcD)] = some (rcsD b) := by
    have hl : b.length ≤ 100000 := by have := hb.2.1; omega
    first
      | rfl
      | (unfold tupD; simp)
  have z1 : (sSet 2 (eCall tupD (aCons (eComp (iterA range1D (aCons (eBin addD (eC (.int 1)) (eFnT 1 1 g__law_draw (aCons (eC (.int 3)) (aNil)))) (aNil))) (gNm 10) (eC (.bool true)) [10] (pEmit (eFnT 1 1 g__law_rect (aCons (eBin addD (eC (.int 1)) (eFnT 1 1 g__law_draw (aCons (eC (.int 6)) (aNil)))) (aNil))))) (aNil)))) (stLaw 12 ns) = some (.next, A) := sSet_ev (s1 := ⟨L02, some t2⟩) (eCall_ev (aOne_ev k1) tu)
  have z2 : (eOr (eBin isntD (eFn 1 g_is_body (aCons (eVar 2) (aNil))) (eC (.bool true))) (eBin neD (eFn 1 g_body_area (aCons (eVar 2) (aNil))) (eCall lenD (aCons (eFn 1 g__law_cells (aCons (eVar 2) (aNil))) (aNil))))) A = some (.bool false, A) :=
    eOr_ev (p := false) (q := false) (eBin_ev (s1 := A) (s2 := A) (eFn_ev (xs := [rcsD b]) rfl rfl (is_body_ev b hb)) rfl rfl) fun _ => eBin_ev (s1 := A) (s2 := A) (eFn_ev (xs := [rcsD b]) rfl rfl (area02 hb)) (eCall_ev (aOne_ev (eFn_ev (xs := [rcsD b]) rfl rfl e1)) (show lenD [.list (cs.map kD)] = some (.int (area b)) by unfold lenD; simp only [List.length_map]; rw [al])) (neI02 _)
  have z3 : (sSet 3 (eVar 2)) A = some (.next, B) := sSet_ev (s1 := A) rfl
  have z4 : (sSet 4 (eC (.int 0))) B = some (.next, E) := sSet_ev (s1 := B) rfl
  have e : B_law (stLaw 12 ns) = some (.ret (.bool true), s2) := sSeq_ev z1 (sSeq_ev (sIf_f z2 rfl) (sSeq_ev z3 (sSeq_ev z4 (sSeq_ev (F1 := sFor (iterA range1D (aCons (eC (.int 4)) (aNil))) (gNm 5) stB) (F2 := tlB) k2 k3))))
  rw [e]
  rfl
end Fx
-- k02w
namespace Fx
open PySem PySem.Spec L2
/-! ### the text -/
def topS (i : Nat) : Stmt := PySem.Challenge.pw_moveways_k02_whole_bodies.main.body.getD i (.Pass ⟨0, 0, 0, 0⟩)
structure Fc (K : PySem.W.Frag) (mg : Str → Option Value) where
  f__law_town : Addr
  fd__law_town : FuncData
  F__law_town : Fun K "_law_town" "_law_town" (topS 26) f__law_town fd__law_town
  m__law_town : mg "_law_town" = some (.ref f__law_town)
  b__law_town : Binds K fd__law_town ["script"] []
  f_is_whole : Addr
  fd_is_whole : FuncData
  F_is_whole : Fun K "is_whole" "is_whole" (topS 4) f_is_whole fd_is_whole
  m_is_whole : mg "is_whole" = some (.ref f_is_whole)
  b_is_whole : Binds K fd_is_whole ["thing", "low", "high"] []
  f_is_rect : Addr
  fd_is_rect : FuncData
  F_is_rect : Fun K "is_rect" "is_rect" (topS 7) f_is_rect fd_is_rect
  m_is_rect : mg "is_rect" = some (.ref f_is_rect)
  b_is_rect : Binds K fd_is_rect ["thing", "low", "high"] []
  f_is_body : Addr
  fd_is_body : FuncData
  F_is_body : Fun K "is_body" "is_body" (topS 12) f_is_body fd_is_body
  m_is_body : mg "is_body" = some (.ref f_is_body)
  b_is_body : Binds K fd_is_body ["thing"] []
  f_look_body : Addr
  fd_look_body : FuncData
  F_look_body : Fun K "look_body" "look_body" (topS 13) f_look_body fd_look_body
  m_look_body : mg "look_body" = some (.ref f_look_body)
  b_look_body : Binds K fd_look_body ["thing"] []
  f_look_number : Addr
  fd_look_number : FuncData
  F_look_number : Fun K "look_number" "look_number" (topS 5) f_look_number fd_look_number
  m_look_number : mg "look_number" = some (.ref f_look_number)
  b_look_number : Binds K fd_look_number ["thing", "low", "high"] []
  f_quarter : Addr
  fd_quarter : FuncData
  F_quarter : Fun K "quarter" "quarter" (topS 14) f_quarter fd_quarter
  m_quarter : mg "quarter" = some (.ref f_quarter)
  b_quarter : Binds K fd_quarter ["rect"] []
  f_turned_by : Addr
  fd_turned_by : FuncData
  F_turned_by : Fun K "turned_by" "turned_by" (topS 15) f_turned_by fd_turned_by
  m_turned_by : mg "turned_by" = some (.ref f_turned_by)
  b_turned_by : Binds K fd_turned_by ["body", "turns"] []
  f_turned : Addr
  fd_turned : FuncData
  F_turned : Fun K "turned" "turned" (topS 16) f_turned fd_turned
  m_turned : mg "turned" = some (.ref f_turned)
  b_turned : Binds K fd_turned ["body", "turns"] []
  f__law_is : Addr
  fd__law_is : FuncData
  F__law_is : Fun K "_law_is" "_law_is" (topS 28) f__law_is fd__law_is
  m__law_is : mg "_law_is" = some (.ref f__law_is)
  b__law_is : Binds K fd__law_is ["told", "due"] []
  f__law_draw : Addr
  fd__law_draw : FuncData
  F__law_draw : Fun K "_law_draw" "_law_draw" (topS 27) f__law_draw fd__law_draw
  m__law_draw : mg "_law_draw" = some (.ref f__law_draw)
  b__law_draw : Binds K fd__law_draw ["town", "count"] []
  f__law_rect : Addr
  fd__law_rect : FuncData
  F__law_rect : Fun K "_law_rect" "_law_rect" (topS 29) f__law_rect fd__law_rect
  m__law_rect : mg "_law_rect" = some (.ref f__law_rect)
  b__law_rect : Binds K fd__law_rect ["town", "broad"] []
  f_covered_by : Addr
  fd_covered_by : FuncData
  F_covered_by : Fun K "covered_by" "covered_by" (topS 8) f_covered_by fd_covered_by
  m_covered_by : mg "covered_by" = some (.ref f_covered_by)
  b_covered_by : Binds K fd_covered_by ["rects"] []
  f_body_area : Addr
  fd_body_area : FuncData
  F_body_area : Fun K "body_area" "body_area" (topS 19) f_body_area fd_body_area
  m_body_area : mg "body_area" = some (.ref f_body_area)
  b_body_area : Binds K fd_body_area ["body"] []
  f_frame_of : Addr
  fd_frame_of : FuncData
  F_frame_of : Fun K "frame_of" "frame_of" (topS 17) f_frame_of fd_frame_of
  m_frame_of : mg "frame_of" = some (.ref f_frame_of)
  b_frame_of : Binds K fd_frame_of ["body"] []
  f_frame : Addr
  fd_frame : FuncData
  F_frame : Fun K "frame" "frame" (topS 18) f_frame fd_frame
  m_frame : mg "frame" = some (.ref f_frame)
  b_frame : Binds K fd_frame ["body"] []
  f_box_of : Addr
  fd_box_of : FuncData
  F_box_of : Fun K "box_of" "box_of" (topS 20) f_box_of fd_box_of
  m_box_of : mg "box_of" = some (.ref f_box_of)
  b_box_of : Binds K fd_box_of ["body"] []
  f_body_box : Addr
  fd_body_box : FuncData
  F_body_box : Fun K "body_box" "body_box" (topS 21) f_body_box fd_body_box
  m_body_box : mg "body_box" = some (.ref f_body_box)
  b_body_box : Binds K fd_body_box ["body"] []
  f_turned_body : Addr
  fd_turned_body : FuncData
  F_turned_body : Fun K "turned_body" "turned_body" (topS 24) f_turned_body fd_turned_body
  m_turned_body : mg "turned_body" = some (.ref f_turned_body)
  b_turned_body : Binds K fd_turned_body ["body"] []
  f_is_even : Addr
  fd_is_even : FuncData
  F_is_even : Fun K "is_even" "is_even" (topS 22) f_is_even fd_is_even
  m_is_even : mg "is_even" = some (.ref f_is_even)
  b_is_even : Binds K fd_is_even ["body"] []
  f__law_cells : Addr
  fd__law_cells : FuncData
  F__law_cells : Fun K "_law_cells" "_law_cells" (topS 30) f__law_cells fd__law_cells
  m__law_cells : mg "_law_cells" = some (.ref f__law_cells)
  b__law_cells : Binds K fd__law_cells ["rects"] []
  f__law_shape : Addr
  fd__law_shape : FuncData
  F__law_shape : Fun K "_law_shape" "_law_shape" (topS 31) f__law_shape fd__law_shape
  m__law_shape : mg "_law_shape" = some (.ref f__law_shape)
  b__law_shape : Binds K fd__law_shape ["body", "quarters"] []
  f_law : Addr
  fd_law : FuncData
  F_law : Fun K "law" "law" (topS 32) f_law fd_law
  m_law : mg "law" = some (.ref f_law)
  b_law : Binds K fd_law ["script"] []
  z_abs : mg "abs" = none
  z_all : mg "all" = none
  z_bool : mg "bool" = none
  z_int : mg "int" = none
  z_isinstance : mg "isinstance" = none
  z_len : mg "len" = none
  z_list : mg "list" = none
  z_max : mg "max" = none
  z_min : mg "min" = none
  z_range : mg "range" = none
  z_set : mg "set" = none
  z_sorted : mg "sorted" = none
  z_tuple : mg "tuple" = none
  k_MOST : Tok
  c_MOST : mg "MOST" = some (.int 8 k_MOST)
  k_MOST_RECTS : Tok
  c_MOST_RECTS : mg "MOST_RECTS" = some (.int 6 k_MOST_RECTS)
section
variable {P : Program} {w : World} {K : PySem.W.Frag} {mg : Str → Option Value} {base : Heap}
abbrev st__law_town : Stmt := topS 26
theorem sc__law_town : FnScope ["script"] ["script"] (defScope st__law_town) := ⟨rfl, rfl, rfl, by decide +kernel, rfl, by decide +kernel, by decide +kernel⟩
theorem ok__law_town (T : Fc K mg) : FnOk P w K mg base CX0 1 T.f__law_town T.fd__law_town ["script"] (spTown K) := ok_town T.F__law_town sc__law_town T.z_list rfl rfl rfl
abbrev st_is_whole : Stmt := topS 4
theorem sc_is_whole : FnScope ["thing", "low", "high"] ["thing", "low", "high"] (defScope st_is_whole) := ⟨rfl, rfl, rfl, by decide +kernel, rfl, by decide +kernel, by decide +kernel⟩
theorem ok_is_whole (T : Fc K mg) : FnOk P w K mg base CX0 1 T.f_is_whole T.fd_is_whole ["thing", "low", "high"] (spV ⟨P, w, K⟩ 3 g_is_whole) :=
  fn_V (k := 0) T.F_is_whole sc_is_whole (fun cdv A outer s H E hr => vb_one (vs_ret (ve_and (ve_isi .int (by rfl) T.z_isinstance (by rfl) T.z_int (ve_var 0)) (ve_and (ve_not (ve_isi .bool (by rfl) T.z_isinstance (by rfl) T.z_bool (ve_var 0))) (ve_one (ve_chain op_le op_le sr_le sr_le (ve_var 1) (ve_var 0) (ve_var 2)))))))
abbrev st_is_rect : Stmt := topS 7
theorem sc_is_rect : FnScope ["thing", "low", "high", "one"] ["thing", "low", "high"] (defScope st_is_rect) := ⟨rfl, rfl, rfl, by decide +kernel, rfl, by decide +kernel, by decide +kernel⟩
theorem ok_is_rect (T : Fc K mg) : FnOk P w K mg base CX0 2 T.f_is_rect T.fd_is_rect ["thing", "low", "high"] (spV ⟨P, w, K⟩ 3 g_is_rect) :=
  fn_V (k := 1) T.F_is_rect sc_is_rect (fun cdv A outer s H E hr => vb_cons (vs_if (VW.vt (vw_or (vt_not (vt_val (ve_isi .tuple (by rfl) T.z_isinstance (by rfl) T.z_tuple (ve_var 0)))) (vw_or (vt_ne (u64 hr) (ve_len (by rfl) T.z_len (va_cons (ve_var 0) (va_nil))) (ve_int)) (vw_or1 (vt_not (vt_val (ve_all rfl (by rfl) T.z_all (va_cons ((vf_comp rfl sc_is_rect.nd (own := [("one", 3)]) (blkOk_by (N := ["thing", "low", "high", "one"]) (sc := defScope st_is_rect) (by decide +kernel)) (vi_seq (ve_var 0)) (fun b => ⟨vge_name 3 sc_is_rect.nd, vts_nil, vp_emit rfl (ve_fn (ok_is_whole T) (hr.mono (by decide)) (by rfl) T.m_is_whole T.F_is_whole.kp T.b_is_whole (va_cons (ve_var 3) (va_cons (ve_var 1) (va_cons (ve_var 2) (va_nil)))))⟩)).ve) (va_nil)))))))))
    (vb_one (vs_ret (ve_bl)))
    (vb_nil))
    (vb_one (vs_ret (ve_and (ve_lt (ve_ix (ve_var 0) (ve_int)) (ve_ix (ve_var 0) (ve_int))) (ve_one (ve_lt (ve_ix (ve_var 0) (ve_int)) (ve_ix (ve_var 0) (ve_int))))))))
abbrev st_is_body : Stmt := topS 12
theorem sc_is_body : FnScope ["thing", "one"] ["thing"] (defScope st_is_body) := ⟨rfl, rfl, rfl, by decide +kernel, rfl, by decide +kernel, by decide +kernel⟩
theorem ok_is_body (T : Fc K mg) : FnOk P w K mg base CX0 3 T.f_is_body T.fd_is_body ["thing"] (spV ⟨P, w, K⟩ 1 g_is_body) :=
  fn_V (k := 2) T.F_is_body sc_is_body (fun cdv A outer s H E hr => vb_cons (vs_if (VW.vt (vw_or (vt_not (vt_val (ve_isi .tuple (by rfl) T.z_isinstance (by rfl) T.z_tuple (ve_var 0)))) (vw_or1 (vt_not (vt_chain op_le op_le sr_le sr_le (ve_int) (ve_len (by rfl) T.z_len (va_cons (ve_var 0) (va_nil))) (ve_gint (by rfl) T.c_MOST_RECTS))))))
    (vb_one (vs_ret (ve_bl)))
    (vb_nil))
    (vb_one (vs_ret (ve_all rfl (by rfl) T.z_all (va_cons ((vf_comp rfl sc_is_body.nd (own := [("one", 1)]) (blkOk_by (N := ["thing", "one"]) (sc := defScope st_is_body) (by decide +kernel)) (vi_seq (ve_var 0)) (fun b => ⟨vge_name 1 sc_is_body.nd, vts_nil, vp_emit rfl (ve_fn (ok_is_rect T) (hr.mono (by decide)) (by rfl) T.m_is_rect T.F_is_rect.kp T.b_is_rect (va_cons (ve_var 1) (va_cons (ve_neg (ve_gint (by rfl) T.c_MOST)) (va_cons (ve_gint (by rfl) T.c_MOST) (va_nil)))))⟩)).ve) (va_nil))))))
abbrev st_look_body : Stmt := topS 13
theorem sc_look_body : FnScope ["thing"] ["thing"] (defScope st_look_body) := ⟨rfl, rfl, rfl, by decide +kernel, rfl, by decide +kernel, by decide +kernel⟩
theorem ok_look_body (T : Fc K mg) : FnOk P w K mg base CX0 4 T.f_look_body T.fd_look_body ["thing"] (spV ⟨P, w, K⟩ 1 g_look_body) :=
  fn_V (k := 3) T.F_look_body sc_look_body (fun cdv A outer s H E hr => vb_one (vs_if (vt_not (vt_val (ve_fn (ok_is_body T) (hr.mono (by decide)) (by rfl) T.m_is_body T.F_is_body.kp T.b_is_body (va_cons (ve_var 0) (va_nil)))))
    (vb_one (vs_no))
    (vb_nil)))
abbrev st_look_number : Stmt := topS 5
theorem sc_look_number : FnScope ["thing", "low", "high"] ["thing", "low", "high"] (defScope st_look_number) := ⟨rfl, rfl, rfl, by decide +kernel, rfl, by decide +kernel, by decide +kernel⟩
theorem ok_look_number (T : Fc K mg) : FnOk P w K mg base CX0 2 T.f_look_number T.fd_look_number ["thing", "low", "high"] (spV ⟨P, w, K⟩ 3 g_look_number) :=
  fn_V (k := 1) T.F_look_number sc_look_number (fun cdv A outer s H E hr => vb_one (vs_if (vt_not (vt_val (ve_fn (ok_is_whole T) (hr.mono (by decide)) (by rfl) T.m_is_whole T.F_is_whole.kp T.b_is_whole (va_cons (ve_var 0) (va_cons (ve_var 1) (va_cons (ve_var 2) (va_nil)))))))
    (vb_one (vs_no))
    (vb_nil)))
abbrev st_quarter : Stmt := topS 14
theorem sc_quarter : FnScope ["rect"] ["rect"] (defScope st_quarter) := ⟨rfl, rfl, rfl, by decide +kernel, rfl, by decide +kernel, by decide +kernel⟩
theorem ok_quarter (T : Fc K mg) : FnOk P w K mg base CX0 1 T.f_quarter T.fd_quarter ["rect"] (spV ⟨P, w, K⟩ 1 g_quarter) :=
  fn_V (k := 0) T.F_quarter sc_quarter (fun cdv A outer s H E hr => vb_one (vs_ret (ve_tup (va_cons (ve_neg (ve_ix (ve_var 0) (ve_int))) (va_cons (ve_ix (ve_var 0) (ve_int)) (va_cons (ve_neg (ve_ix (ve_var 0) (ve_int))) (va_cons (ve_ix (ve_var 0) (ve_int)) (va_nil))))))))
abbrev st_turned_by : Stmt := topS 15
theorem sc_turned_by : FnScope ["body", "turns", "turn", "one"] ["body", "turns"] (defScope st_turned_by) := ⟨rfl, rfl, rfl, by decide +kernel, rfl, by decide +kernel, by decide +kernel⟩
theorem ok_turned_by (T : Fc K mg) : FnOk P w K mg base CX0 2 T.f_turned_by T.fd_turned_by ["body", "turns"] (spV ⟨P, w, K⟩ 2 g_turned_by) :=
  fn_V (k := 1) T.F_turned_by sc_turned_by (fun cdv A outer s H E hr => vb_cons (vs_for PassesOwn.never rfl (vi_range1 (by rfl) T.z_range (va_cons (ve_var 1) (va_nil))) (vg_name 2 sc_turned_by.nd)
    (vb_one (vs_set (i := 0) (ve_tuple (by rfl) T.z_tuple (va_cons ((vf_comp rfl sc_turned_by.nd (own := [("one", 3)]) (blkOk_by (N := ["body", "turns", "turn", "one"]) (sc := defScope st_turned_by) (by decide +kernel)) (vi_seq (ve_var 0)) (fun b => ⟨vge_name 3 sc_turned_by.nd, vts_nil, vp_emit rfl (ve_fn (ok_quarter T) (hr.mono (by decide)) (by rfl) T.m_quarter T.F_quarter.kp T.b_quarter (va_cons (ve_var 3) (va_nil)))⟩)).ve) (va_nil))) sc_turned_by.nd)))
    (vb_one (vs_ret (ve_var 0))))
abbrev st_turned : Stmt := topS 16
theorem sc_turned : FnScope ["body", "turns"] ["body", "turns"] (defScope st_turned) := ⟨rfl, rfl, rfl, by decide +kernel, rfl, by decide +kernel, by decide +kernel⟩
theorem ok_turned (T : Fc K mg) : FnOk P w K mg base CX0 5 T.f_turned T.fd_turned ["body", "turns"] (spV ⟨P, w, K⟩ 2 g_turned) :=
  fn_V (k := 4) T.F_turned sc_turned (fun cdv A outer s H E hr => vb_cons (vs_expr (ve_fn (ok_look_body T) (hr.mono (by decide)) (by rfl) T.m_look_body T.F_look_body.kp T.b_look_body (va_cons (ve_var 0) (va_nil))))
    (vb_cons (vs_expr (ve_fn (ok_look_number T) (hr.mono (by decide)) (by rfl) T.m_look_number T.F_look_number.kp T.b_look_number (va_cons (ve_var 1) (va_cons (ve_int) (va_cons (ve_int) (va_nil))))))
    (vb_one (vs_ret (ve_fn (ok_turned_by T) (hr.mono (by decide)) (by rfl) T.m_turned_by T.F_turned_by.kp T.b_turned_by (va_cons (ve_var 0) (va_cons (ve_var 1) (va_nil))))))))
abbrev st__law_is : Stmt := topS 28
theorem sc__law_is : FnScope ["told", "due"] ["told", "due"] (defScope st__law_is) := ⟨rfl, rfl, rfl, by decide +kernel, rfl, by decide +kernel, by decide +kernel⟩
theorem ok__law_is (T : Fc K mg) : FnOk P w K mg base CX0 1 T.f__law_is T.fd__law_is ["told", "due"] (spV ⟨P, w, K⟩ 2 g__law_is) :=
  fn_V (k := 0) T.F__law_is sc__law_is (fun cdv A outer s H E hr => vb_one (vs_ret (ve_and (ve_isi .bool (by rfl) T.z_isinstance (by rfl) T.z_bool (ve_var 0)) (ve_one (ve_eq (u64 hr) (ve_var 0) (ve_var 1))))))
abbrev st__law_draw : Stmt := topS 27
theorem sc__law_draw : FnScope ["town", "count", "row", "at", "cell", "mixed"] ["town", "count"] (defScope st__law_draw) := ⟨rfl, rfl, rfl, by decide +kernel, rfl, by decide +kernel, by decide +kernel⟩
theorem ok__law_draw (T : Fc K mg) : FnOk P w K mg base CX0 1 T.f__law_draw T.fd__law_draw ["town", "count"] (spT ⟨P, w, K⟩ 1 g__law_draw) :=
  fn_T (k := 0) T.F__law_draw sc__law_draw rfl (fun cdv A outer s H E hr => vb_cons (vs_row 0 2 ⟨rfl, by first | exact Or.inl rfl | exact Or.inr (Or.inl rfl) | exact Or.inr (Or.inr rfl), by decide +kernel, by decide +kernel⟩ sc__law_draw.nd)
    (vb_cons (vs_tw1 0 ⟨rfl, by first | exact Or.inl rfl | exact Or.inr (Or.inl rfl) | exact Or.inr (Or.inr rfl), by decide +kernel, by decide +kernel⟩ (ve_add (ve_tw1 0 ⟨rfl, by first | exact Or.inl rfl | exact Or.inr (Or.inl rfl) | exact Or.inr (Or.inr rfl), by decide +kernel, by decide +kernel⟩) (ve_int)))
    (vb_cons (vs_set (i := 3) (ve_mod (ve_tw1 0 ⟨rfl, by first | exact Or.inl rfl | exact Or.inr (Or.inl rfl) | exact Or.inr (Or.inr rfl), by decide +kernel, by decide +kernel⟩) (ve_rowLen 2 ⟨rfl, by first | exact Or.inl rfl | exact Or.inr (Or.inl rfl) | exact Or.inr (Or.inr rfl), by decide +kernel, by decide +kernel⟩ (by rfl) T.z_len ⟨rfl, rfl⟩)) sc__law_draw.nd)
    (vb_cons (vs_set (i := 4) (ve_rowAt 2 ⟨rfl, by first | exact Or.inl rfl | exact Or.inr (Or.inl rfl) | exact Or.inr (Or.inr rfl), by decide +kernel, by decide +kernel⟩ (ve_var 3)) sc__law_draw.nd)
    (vb_cons (vs_if (vt_ge (ve_var 4) (ve_int))
    (vb_cons (vs_rowSet 2 ⟨rfl, by first | exact Or.inl rfl | exact Or.inr (Or.inl rfl) | exact Or.inr (Or.inr rfl), by decide +kernel, by decide +kernel⟩ (ve_var 3) (ve_div (ve_var 4) (ve_var 1)))
    (vb_one (vs_ret (ve_mod (ve_var 4) (ve_var 1)))))
    (vb_nil))
    (vb_cons (vs_set (i := 5) (ve_mod (ve_add (ve_var 4) (ve_mul (ve_int) (ve_tw1 0 ⟨rfl, by first | exact Or.inl rfl | exact Or.inr (Or.inl rfl) | exact Or.inr (Or.inr rfl), by decide +kernel, by decide +kernel⟩))) (ve_int)) sc__law_draw.nd)
    (vb_cons (vs_set (i := 5) (ve_mod (ve_pow (ve_var 5) (ve_int)) (ve_int)) sc__law_draw.nd)
    (vb_one (vs_ret (ve_mod (ve_div (ve_mod (ve_add (ve_mul (ve_div (ve_var 5) (ve_int)) (ve_int)) (ve_var 5)) (ve_int)) (ve_int)) (ve_var 1)))))))))))
abbrev st__law_rect : Stmt := topS 29
theorem sc__law_rect : FnScope ["town", "broad", "left", "low"] ["town", "broad"] (defScope st__law_rect) := ⟨rfl, rfl, rfl, by decide +kernel, rfl, by decide +kernel, by decide +kernel⟩
theorem ok__law_rect (T : Fc K mg) : FnOk P w K mg base CX0 2 T.f__law_rect T.fd__law_rect ["town", "broad"] (spT ⟨P, w, K⟩ 1 g__law_rect) :=
  fn_T (k := 1) T.F__law_rect sc__law_rect rfl (fun cdv A outer s H E hr => vb_cons (vs_par (i := 2) (j := 3) (va_cons (ve_sub (ve_fnT 0 (ok__law_draw T) (hr.mono (by decide)) (by rfl) T.m__law_draw T.F__law_draw.kp T.b__law_draw ⟨rfl, by first | exact Or.inl rfl | exact Or.inr (Or.inl rfl) | exact Or.inr (Or.inr rfl), by decide +kernel, by decide +kernel⟩ (va_cons (ve_mul (ve_int) (ve_var 1)) (va_nil))) (ve_var 1)) (va_cons (ve_sub (ve_fnT 0 (ok__law_draw T) (hr.mono (by decide)) (by rfl) T.m__law_draw T.F__law_draw.kp T.b__law_draw ⟨rfl, by first | exact Or.inl rfl | exact Or.inr (Or.inl rfl) | exact Or.inr (Or.inr rfl), by decide +kernel, by decide +kernel⟩ (va_cons (ve_mul (ve_int) (ve_var 1)) (va_nil))) (ve_var 1)) (va_nil))) rfl sc__law_rect.nd)
    (vb_one (vs_ret (ve_tup (va_cons (ve_var 2) (va_cons (ve_var 3) (va_cons (ve_add (ve_add (ve_var 2) (ve_int)) (ve_fnT 0 (ok__law_draw T) (hr.mono (by decide)) (by rfl) T.m__law_draw T.F__law_draw.kp T.b__law_draw ⟨rfl, by first | exact Or.inl rfl | exact Or.inr (Or.inl rfl) | exact Or.inr (Or.inr rfl), by decide +kernel, by decide +kernel⟩ (va_cons (ve_sub (ve_var 1) (ve_var 2)) (va_nil)))) (va_cons (ve_add (ve_add (ve_var 3) (ve_int)) (ve_fnT 0 (ok__law_draw T) (hr.mono (by decide)) (by rfl) T.m__law_draw T.F__law_draw.kp T.b__law_draw ⟨rfl, by first | exact Or.inl rfl | exact Or.inr (Or.inl rfl) | exact Or.inr (Or.inr rfl), by decide +kernel, by decide +kernel⟩ (va_cons (ve_sub (ve_var 1) (ve_var 3)) (va_nil)))) (va_nil)))))))))
abbrev st_covered_by : Stmt := topS 8
theorem sc_covered_by : FnScope ["rects", "across", "found", "k", "rows", "top", "low", "high", "start", "rect", "one"] ["rects"] (defScope st_covered_by) := ⟨rfl, rfl, rfl, by decide +kernel, rfl, by decide +kernel, by decide +kernel⟩
theorem ok_covered_by (T : Fc K mg) : FnOk P w K mg base CX0 1 T.f_covered_by T.fd_covered_by ["rects"] (spV ⟨P, w, K⟩ 1 g_covered_by) :=
  fn_V (k := 0) T.F_covered_by sc_covered_by (fun cdv A outer s H E hr => vb_cons (vs_set (i := 1) ((vf_sortSC rfl (u64 hr) (by rfl) T.z_sorted sc_covered_by.nd (own := [("rect", 9), ("one", 10)]) (blkOk_by (N := ["rects", "across", "found", "k", "rows", "top", "low", "high", "start", "rect", "one"]) (sc := defScope st_covered_by) (by decide +kernel)) (vi_seq (ve_var 0)) (fun b => ⟨vge_name 9 sc_covered_by.nd, vts_nil, vps_for (vs := [10]) (cmpS _ _ _ _ (by decide)) rfl rfl (vi_seq (ve_tup (va_cons (ve_ix (ve_var 9) (ve_int)) (va_cons (ve_ix (ve_var 9) (ve_int)) (va_nil))))) (vge_name 10 sc_covered_by.nd) (vts_nil) (vps_emit rfl (ve_var 10))⟩)).ve) sc_covered_by.nd)
    (vb_cons (vs_set (i := 2) (ve_int) sc_covered_by.nd)
    (vb_cons (vs_for PassesOwn.never rfl (vi_range1 (by rfl) T.z_range (va_cons (ve_sub (ve_len (by rfl) T.z_len (va_cons (ve_var 1) (va_nil))) (ve_int)) (va_nil))) (vg_name 3 sc_covered_by.nd)
    (vb_cons (vs_set (i := 4) ((vf_sorted (u64 hr) (by rfl) T.z_sorted (va_cons ((vf_comp rfl sc_covered_by.nd (own := [("rect", 9)]) (blkOk_by (N := ["rects", "across", "found", "k", "rows", "top", "low", "high", "start", "rect", "one"]) (sc := defScope st_covered_by) (by decide +kernel)) (vi_seq (ve_var 0)) (fun b => ⟨vge_name 9 sc_covered_by.nd, vts_one (VW.vt (vw_and (vt_le (ve_ix (ve_var 9) (ve_int)) (ve_ix (ve_var 1) (ve_var 3))) (vw_and1 (vt_ge (ve_ix (ve_var 9) (ve_int)) (ve_ix (ve_var 1) (ve_add (ve_var 3) (ve_int))))))), vp_emit rfl (ve_tup (va_cons (ve_ix (ve_var 9) (ve_int)) (va_cons (ve_ix (ve_var 9) (ve_int)) (va_nil))))⟩)).ve) (va_nil))).ve) sc_covered_by.nd)
    (vb_cons (vs_set (i := 5) (ve_non) sc_covered_by.nd)
    (vb_one (vs_for PassesOwn.never rfl (vi_seq (ve_var 4)) (vg_tup rfl (vgs_cons (vg_name 6 sc_covered_by.nd) (vgs_cons (vg_name 7 sc_covered_by.nd) (vgs_nil))))
    (vb_cons (vs_set (i := 8) (ve_if (vt_is (ve_var 5) (ve_non)) (ve_var 6) (ve_max2 rfl (by rfl) T.z_max (va_cons (ve_var 6) (va_cons (ve_var 5) (va_nil))))) sc_covered_by.nd)
    (vb_cons (vs_if (vt_gt (ve_var 7) (ve_var 8))
    (vb_one (vs_augI (i := 2) (ve_mul (ve_sub (ve_var 7) (ve_var 8)) (ve_sub (ve_ix (ve_var 1) (ve_add (ve_var 3) (ve_int))) (ve_ix (ve_var 1) (ve_var 3)))) sc_covered_by.nd))
    (vb_nil))
    (vb_one (vs_set (i := 5) (ve_if (vt_is (ve_var 5) (ve_non)) (ve_var 7) (ve_max2 rfl (by rfl) T.z_max (va_cons (ve_var 5) (va_cons (ve_var 7) (va_nil))))) sc_covered_by.nd)))))))))
    (vb_one (vs_ret (ve_var 2))))))
abbrev st_body_area : Stmt := topS 19
theorem sc_body_area : FnScope ["body"] ["body"] (defScope st_body_area) := ⟨rfl, rfl, rfl, by decide +kernel, rfl, by decide +kernel, by decide +kernel⟩
theorem ok_body_area (T : Fc K mg) : FnOk P w K mg base CX0 5 T.f_body_area T.fd_body_area ["body"] (spV ⟨P, w, K⟩ 1 g_body_area) :=
  fn_V (k := 4) T.F_body_area sc_body_area (fun cdv A outer s H E hr => vb_cons (vs_expr (ve_fn (ok_look_body T) (hr.mono (by decide)) (by rfl) T.m_look_body T.F_look_body.kp T.b_look_body (va_cons (ve_var 0) (va_nil))))
    (vb_one (vs_ret (ve_fn (ok_covered_by T) (hr.mono (by decide)) (by rfl) T.m_covered_by T.F_covered_by.kp T.b_covered_by (va_cons (ve_var 0) (va_nil))))))
abbrev st_frame_of : Stmt := topS 17
theorem sc_frame_of : FnScope ["body", "one", "number"] ["body"] (defScope st_frame_of) := ⟨rfl, rfl, rfl, by decide +kernel, rfl, by decide +kernel, by decide +kernel⟩
theorem ok_frame_of (T : Fc K mg) : FnOk P w K mg base CX0 1 T.f_frame_of T.fd_frame_of ["body"] (spV ⟨P, w, K⟩ 1 g_frame_of) :=
  fn_V (k := 0) T.F_frame_of sc_frame_of (fun cdv A outer s H E hr => vb_one (vs_ret (ve_maxL rfl (by rfl) T.z_max (va_cons ((vf_comp rfl sc_frame_of.nd (own := [("one", 1), ("number", 2)]) (blkOk_by (N := ["body", "one", "number"]) (sc := defScope st_frame_of) (by decide +kernel)) (vi_seq (ve_var 0)) (fun b => ⟨vge_name 1 sc_frame_of.nd, vts_nil, vp_for (vs := [2]) (cmpL _ _ _ _ (by decide)) rfl rfl (vi_seq (ve_var 1)) (vge_name 2 sc_frame_of.nd) (vts_nil) (vp_emit rfl (ve_abs (by rfl) T.z_abs (va_cons (ve_var 2) (va_nil))))⟩)).ve) (va_nil)))))
abbrev st_frame : Stmt := topS 18
theorem sc_frame : FnScope ["body"] ["body"] (defScope st_frame) := ⟨rfl, rfl, rfl, by decide +kernel, rfl, by decide +kernel, by decide +kernel⟩
theorem ok_frame (T : Fc K mg) : FnOk P w K mg base CX0 5 T.f_frame T.fd_frame ["body"] (spV ⟨P, w, K⟩ 1 g_frame) :=
  fn_V (k := 4) T.F_frame sc_frame (fun cdv A outer s H E hr => vb_cons (vs_expr (ve_fn (ok_look_body T) (hr.mono (by decide)) (by rfl) T.m_look_body T.F_look_body.kp T.b_look_body (va_cons (ve_var 0) (va_nil))))
    (vb_one (vs_ret (ve_fn (ok_frame_of T) (hr.mono (by decide)) (by rfl) T.m_frame_of T.F_frame_of.kp T.b_frame_of (va_cons (ve_var 0) (va_nil))))))
abbrev st_box_of : Stmt := topS 20
theorem sc_box_of : FnScope ["body", "one"] ["body"] (defScope st_box_of) := ⟨rfl, rfl, rfl, by decide +kernel, rfl, by decide +kernel, by decide +kernel⟩
theorem ok_box_of (T : Fc K mg) : FnOk P w K mg base CX0 1 T.f_box_of T.fd_box_of ["body"] (spV ⟨P, w, K⟩ 1 g_box_of) :=
  fn_V (k := 0) T.F_box_of sc_box_of (fun cdv A outer s H E hr => vb_one (vs_ret (ve_tup (va_cons (ve_minL rfl (by rfl) T.z_min (va_cons ((vf_comp rfl sc_box_of.nd (own := [("one", 1)]) (blkOk_by (N := ["body", "one"]) (sc := defScope st_box_of) (by decide +kernel)) (vi_seq (ve_var 0)) (fun b => ⟨vge_name 1 sc_box_of.nd, vts_nil, vp_emit rfl (ve_ix (ve_var 1) (ve_int))⟩)).ve) (va_nil))) (va_cons (ve_minL rfl (by rfl) T.z_min (va_cons ((vf_comp rfl sc_box_of.nd (own := [("one", 1)]) (blkOk_by (N := ["body", "one"]) (sc := defScope st_box_of) (by decide +kernel)) (vi_seq (ve_var 0)) (fun b => ⟨vge_name 1 sc_box_of.nd, vts_nil, vp_emit rfl (ve_ix (ve_var 1) (ve_int))⟩)).ve) (va_nil))) (va_cons (ve_maxL rfl (by rfl) T.z_max (va_cons ((vf_comp rfl sc_box_of.nd (own := [("one", 1)]) (blkOk_by (N := ["body", "one"]) (sc := defScope st_box_of) (by decide +kernel)) (vi_seq (ve_var 0)) (fun b => ⟨vge_name 1 sc_box_of.nd, vts_nil, vp_emit rfl (ve_ix (ve_var 1) (ve_int))⟩)).ve) (va_nil))) (va_cons (ve_maxL rfl (by rfl) T.z_max (va_cons ((vf_comp rfl sc_box_of.nd (own := [("one", 1)]) (blkOk_by (N := ["body", "one"]) (sc := defScope st_box_of) (by decide +kernel)) (vi_seq (ve_var 0)) (fun b => ⟨vge_name 1 sc_box_of.nd, vts_nil, vp_emit rfl (ve_ix (ve_var 1) (ve_int))⟩)).ve) (va_nil))) (va_nil))))))))
abbrev st_body_box : Stmt := topS 21
theorem sc_body_box : FnScope ["body"] ["body"] (defScope st_body_box) := ⟨rfl, rfl, rfl, by decide +kernel, rfl, by decide +kernel, by decide +kernel⟩
theorem ok_body_box (T : Fc K mg) : FnOk P w K mg base CX0 5 T.f_body_box T.fd_body_box ["body"] (spV ⟨P, w, K⟩ 1 g_body_box) :=
  fn_V (k := 4) T.F_body_box sc_body_box (fun cdv A outer s H E hr => vb_cons (vs_expr (ve_fn (ok_look_body T) (hr.mono (by decide)) (by rfl) T.m_look_body T.F_look_body.kp T.b_look_body (va_cons (ve_var 0) (va_nil))))
    (vb_one (vs_ret (ve_fn (ok_box_of T) (hr.mono (by decide)) (by rfl) T.m_box_of T.F_box_of.kp T.b_box_of (va_cons (ve_var 0) (va_nil))))))
abbrev st_turned_body : Stmt := topS 24
theorem sc_turned_body : FnScope ["body"] ["body"] (defScope st_turned_body) := ⟨rfl, rfl, rfl, by decide +kernel, rfl, by decide +kernel, by decide +kernel⟩
theorem ok_turned_body (T : Fc K mg) : FnOk P w K mg base CX0 5 T.f_turned_body T.fd_turned_body ["body"] (spV ⟨P, w, K⟩ 1 g_turned_body) :=
  fn_V (k := 4) T.F_turned_body sc_turned_body (fun cdv A outer s H E hr => vb_cons (vs_expr (ve_fn (ok_look_body T) (hr.mono (by decide)) (by rfl) T.m_look_body T.F_look_body.kp T.b_look_body (va_cons (ve_var 0) (va_nil))))
    (vb_one (vs_ret (ve_fn (ok_turned_by T) (hr.mono (by decide)) (by rfl) T.m_turned_by T.F_turned_by.kp T.b_turned_by (va_cons (ve_var 0) (va_cons (ve_int) (va_nil)))))))
abbrev st_is_even : Stmt := topS 22
theorem sc_is_even : FnScope ["body", "both"] ["body"] (defScope st_is_even) := ⟨rfl, rfl, rfl, by decide +kernel, rfl, by decide +kernel, by decide +kernel⟩
theorem ok_is_even (T : Fc K mg) : FnOk P w K mg base CX0 5 T.f_is_even T.fd_is_even ["body"] (spV ⟨P, w, K⟩ 1 g_is_even) :=
  fn_V (k := 4) T.F_is_even sc_is_even (fun cdv A outer s H E hr => vb_cons (vs_expr (ve_fn (ok_look_body T) (hr.mono (by decide)) (by rfl) T.m_look_body T.F_look_body.kp T.b_look_body (va_cons (ve_var 0) (va_nil))))
    (vb_cons (vs_set (i := 1) (ve_fn (ok_covered_by T) (hr.mono (by decide)) (by rfl) T.m_covered_by T.F_covered_by.kp T.b_covered_by (va_cons (ve_add (ve_var 0) (ve_fn (ok_turned_by T) (hr.mono (by decide)) (by rfl) T.m_turned_by T.F_turned_by.kp T.b_turned_by (va_cons (ve_var 0) (va_cons (ve_int) (va_nil))))) (va_nil))) sc_is_even.nd)
    (vb_one (vs_ret (ve_eq (u64 hr) (ve_var 1) (ve_fn (ok_covered_by T) (hr.mono (by decide)) (by rfl) T.m_covered_by T.F_covered_by.kp T.b_covered_by (va_cons (ve_var 0) (va_nil))))))))
abbrev st__law_cells : Stmt := topS 30
theorem sc__law_cells : FnScope ["rects", "found", "left", "low", "right", "top", "px", "py"] ["rects"] (defScope st__law_cells) := ⟨rfl, rfl, rfl, by decide +kernel, rfl, by decide +kernel, by decide +kernel⟩
theorem ok__law_cells (T : Fc K mg) : FnOk P w K mg base CX0 1 T.f__law_cells T.fd__law_cells ["rects"] (spV ⟨P, w, K⟩ 1 g__law_cells) :=
  fn_V (k := 0) T.F__law_cells sc__law_cells (fun cdv A outer s H E hr => vb_cons (vs_set (i := 1) ((vf_lst (va_nil)).ve) sc__law_cells.nd)
    (vb_cons (vs_for PassesOwn.never rfl (vi_seq (ve_var 0)) (vg_tup rfl (vgs_cons (vg_name 2 sc__law_cells.nd) (vgs_cons (vg_name 3 sc__law_cells.nd) (vgs_cons (vg_name 4 sc__law_cells.nd) (vgs_cons (vg_name 5 sc__law_cells.nd) (vgs_nil))))))
    (vb_one (vs_for PassesOwn.never rfl (vi_range2 (by rfl) T.z_range (va_cons (ve_var 2) (va_cons (ve_var 4) (va_nil)))) (vg_name 6 sc__law_cells.nd)
    (vb_one (vs_set (i := 1) ((vf_cat (ve_var 1) ((vf_comp rfl sc__law_cells.nd (own := [("py", 7)]) (blkOk_by (N := ["rects", "found", "left", "low", "right", "top", "px", "py"]) (sc := defScope st__law_cells) (by decide +kernel)) (vi_range2 (by rfl) T.z_range (va_cons (ve_var 3) (va_cons (ve_var 5) (va_nil)))) (fun b => ⟨vge_name 7 sc__law_cells.nd, vts_nil, vp_emit rfl (ve_tup (va_cons (ve_var 6) (va_cons (ve_var 7) (va_nil))))⟩)).ve)).ve) sc__law_cells.nd)))))
    (vb_one (vs_ret ((vf_sortSet rfl (u64 hr) (by rfl) T.z_sorted (by rfl) T.z_set (ve_var 1)).ve)))))
abbrev st__law_shape : Stmt := topS 31
theorem sc__law_shape : FnScope ["body", "quarters", "found", "turn_of", "px", "py"] ["body", "quarters"] (defScope st__law_shape) := ⟨rfl, rfl, rfl, by decide +kernel, rfl, by decide +kernel, by decide +kernel⟩
theorem ok__law_shape (T : Fc K mg) : FnOk P w K mg base CX0 2 T.f__law_shape T.fd__law_shape ["body", "quarters"] (spV ⟨P, w, K⟩ 2 g__law_shape) :=
  fn_V (k := 1) T.F__law_shape sc__law_shape (fun cdv A outer s H E hr => vb_cons (vs_set (i := 2) (ve_fn (ok__law_cells T) (hr.mono (by decide)) (by rfl) T.m__law_cells T.F__law_cells.kp T.b__law_cells (va_cons (ve_var 0) (va_nil))) sc__law_shape.nd)
    (vb_cons (vs_for PassesOwn.never rfl (vi_range1 (by rfl) T.z_range (va_cons (ve_var 1) (va_nil))) (vg_name 3 sc__law_shape.nd)
    (vb_one (vs_thenFrz 2 (vs_setComp (i := 2) rfl sc__law_shape.nd (own := [("px", 4), ("py", 5)]) (blkOk_by (N := ["body", "quarters", "found", "turn_of", "px", "py"]) (sc := defScope st__law_shape) (by decide +kernel)) (vi_seq (ve_var 2)) (fun b => ⟨vge_tup rfl (vges_cons (vge_name 4 sc__law_shape.nd) (vges_cons (vge_name 5 sc__law_shape.nd) (vges_nil))), vts_nil, vp_emit rfl (ve_tup (va_cons (ve_sub (ve_sub (ve_int) (ve_var 5)) (ve_int)) (va_cons (ve_var 4) (va_nil))))⟩) (sw_true rfl rfl rfl (by decide +kernel))))))
    (vb_one (vs_ret ((vf_sorted (u64 hr) (by rfl) T.z_sorted (va_cons (ve_var 2) (va_nil))).ve)))))
abbrev st_law : Stmt := topS 32
theorem sc_law : FnScope ["script", "town", "body", "now", "reach_of", "quarters", "left", "right", "told", "one", "k", "number"] ["script"] (defScope st_law) := ⟨rfl, rfl, rfl, by decide +kernel, rfl, by decide +kernel, by decide +kernel⟩
theorem ok_law' (T : Fc K mg) (ok : ∀ ns : List Int, ns.length ≤ 63 → isTrueOut (B_law (stLaw 12 ns)) = true) : FnOk P w K mg base CX0 6 T.f_law T.fd_law ["script"] (spLaw K) :=
  ok_law (Fb := B_law) (N := ["body", "now", "reach_of", "quarters", "left", "right", "told", "one", "k", "number"]) (k := 4) T.F_law sc_law (ok__law_town T) T.m__law_town T.F__law_town.kp T.b__law_town rfl rfl rfl (by first | exact Or.inl rfl | exact Or.inr rfl) (fun cdv A outer s H E hr => vb_cons (vs_set (i := 2) (ve_tuple (by rfl) T.z_tuple (va_cons ((vf_comp rfl sc_law.nd (own := [("k", 10)]) (blkOk_by (N := ["script", "town", "body", "now", "reach_of", "quarters", "left", "right", "told", "one", "k", "number"]) (sc := defScope st_law) (by decide +kernel)) (vi_range1 (by rfl) T.z_range (va_cons (ve_add (ve_int) (ve_fnT 1 (ok__law_draw T) (hr.mono (by decide)) (by rfl) T.m__law_draw T.F__law_draw.kp T.b__law_draw ⟨rfl, by first | exact Or.inl rfl | exact Or.inr (Or.inl rfl) | exact Or.inr (Or.inr rfl), by decide +kernel, by decide +kernel⟩ (va_cons (ve_int) (va_nil)))) (va_nil))) (fun b => ⟨vge_name 10 sc_law.nd, vts_nil, vp_emit rfl (ve_fnT 1 (ok__law_rect T) (hr.mono (by decide)) (by rfl) T.m__law_rect T.F__law_rect.kp T.b__law_rect ⟨rfl, by first | exact Or.inl rfl | exact Or.inr (Or.inl rfl) | exact Or.inr (Or.inr rfl), by decide +kernel, by decide +kernel⟩ (va_cons (ve_add (ve_int) (ve_fnT 1 (ok__law_draw T) (hr.mono (by decide)) (by rfl) T.m__law_draw T.F__law_draw.kp T.b__law_draw ⟨rfl, by first | exact Or.inl rfl | exact Or.inr (Or.inl rfl) | exact Or.inr (Or.inr rfl), by decide +kernel, by decide +kernel⟩ (va_cons (ve_int) (va_nil)))) (va_nil)))⟩)).ve) (va_nil))) sc_law.nd)
    (vb_cons (vs_if (VW.vt (vw_or (vt_isnt (ve_fn (ok_is_body T) (hr.mono (by decide)) (by rfl) T.m_is_body T.F_is_body.kp T.b_is_body (va_cons (ve_var 2) (va_nil))) (ve_bl)) (vw_or1 (vt_ne (u64 hr) (ve_fn (ok_body_area T) (hr.mono (by decide)) (by rfl) T.m_body_area T.F_body_area.kp T.b_body_area (va_cons (ve_var 2) (va_nil))) (ve_len (by rfl) T.z_len (va_cons (ve_fn (ok__law_cells T) (hr.mono (by decide)) (by rfl) T.m__law_cells T.F__law_cells.kp T.b__law_cells (va_cons (ve_var 2) (va_nil))) (va_nil)))))))
    (vb_one (vs_ret (ve_bl)))
    (vb_nil))
    (vb_cons (vs_set (i := 3) (ve_var 2) sc_law.nd)
    (vb_cons (vs_set (i := 4) (ve_int) sc_law.nd)
    (vb_cons (vs_for PassesOwn.never rfl (vi_range1 (by rfl) T.z_range (va_cons (ve_int) (va_nil))) (vg_name 5 sc_law.nd)
    (vb_cons (vs_set (i := 8) (ve_fn (ok_turned T) (hr.mono (by decide)) (by rfl) T.m_turned T.F_turned.kp T.b_turned (va_cons (ve_var 2) (va_cons (ve_var 5) (va_nil)))) sc_law.nd)
    (vb_cons (vs_if (VW.vt (vw_or (vt_ne (u64 hr) (ve_var 8) (ve_var 3)) (vw_or (vt_ne (u64 hr) ((vf_sorted (u64 hr) (by rfl) T.z_sorted (va_cons (ve_fn (ok__law_cells T) (hr.mono (by decide)) (by rfl) T.m__law_cells T.F__law_cells.kp T.b__law_cells (va_cons (ve_var 8) (va_nil))) (va_nil))).ve) (ve_fn (ok__law_shape T) (hr.mono (by decide)) (by rfl) T.m__law_shape T.F__law_shape.kp T.b__law_shape (va_cons (ve_var 2) (va_cons (ve_var 5) (va_nil))))) (vw_or1 (vt_isnt (ve_fn (ok_is_body T) (hr.mono (by decide)) (by rfl) T.m_is_body T.F_is_body.kp T.b_is_body (va_cons (ve_var 8) (va_nil))) (ve_bl))))))
    (vb_one (vs_ret (ve_bl)))
    (vb_nil))
    (vb_cons (vs_for PassesOwn.never rfl (vi_seq (ve_var 8)) (vg_name 9 sc_law.nd)
    (vb_one (vs_set (i := 4) (ve_maxL rfl (by rfl) T.z_max (va_cons ((vf_cat ((vf_lst (va_cons (ve_var 4) (va_nil))).ve) ((vf_comp rfl sc_law.nd (own := [("number", 11)]) (blkOk_by (N := ["script", "town", "body", "now", "reach_of", "quarters", "left", "right", "told", "one", "k", "number"]) (sc := defScope st_law) (by decide +kernel)) (vi_seq (ve_var 9)) (fun b => ⟨vge_name 11 sc_law.nd, vts_nil, vp_emit rfl (ve_max2 rfl (by rfl) T.z_max (va_cons (ve_var 11) (va_cons (ve_sub (ve_int) (ve_var 11)) (va_nil))))⟩)).ve)).ve) (va_nil))) sc_law.nd)))
    (vb_one (vs_set (i := 3) (ve_fn (ok_turned T) (hr.mono (by decide)) (by rfl) T.m_turned T.F_turned.kp T.b_turned (va_cons (ve_var 3) (va_cons (ve_int) (va_nil)))) sc_law.nd))))))
    (vb_cons (vs_if (VW.vt (vw_or (vt_ne (u64 hr) (ve_var 3) (ve_var 2)) (vw_or (vt_ne (u64 hr) (ve_fn (ok_frame T) (hr.mono (by decide)) (by rfl) T.m_frame T.F_frame.kp T.b_frame (va_cons (ve_var 2) (va_nil))) (ve_var 4)) (vw_or1 (vt_ne (u64 hr) (ve_fn (ok_turned T) (hr.mono (by decide)) (by rfl) T.m_turned T.F_turned.kp T.b_turned (va_cons (ve_fn (ok_turned T) (hr.mono (by decide)) (by rfl) T.m_turned T.F_turned.kp T.b_turned (va_cons (ve_var 2) (va_cons (ve_int) (va_nil)))) (va_cons (ve_int) (va_nil)))) (ve_var 2))))))
    (vb_one (vs_ret (ve_bl)))
    (vb_nil))
    (vb_cons (vs_set (i := 6) (ve_tup (va_cons (ve_minL rfl (by rfl) T.z_min (va_cons ((vf_comp rfl sc_law.nd (own := [("one", 9)]) (blkOk_by (N := ["script", "town", "body", "now", "reach_of", "quarters", "left", "right", "told", "one", "k", "number"]) (sc := defScope st_law) (by decide +kernel)) (vi_seq (ve_var 2)) (fun b => ⟨vge_name 9 sc_law.nd, vts_nil, vp_emit rfl (ve_ix (ve_var 9) (ve_int))⟩)).ve) (va_nil))) (va_cons (ve_minL rfl (by rfl) T.z_min (va_cons ((vf_comp rfl sc_law.nd (own := [("one", 9)]) (blkOk_by (N := ["script", "town", "body", "now", "reach_of", "quarters", "left", "right", "told", "one", "k", "number"]) (sc := defScope st_law) (by decide +kernel)) (vi_seq (ve_var 2)) (fun b => ⟨vge_name 9 sc_law.nd, vts_nil, vp_emit rfl (ve_ix (ve_var 9) (ve_int))⟩)).ve) (va_nil))) (va_nil)))) sc_law.nd)
    (vb_cons (vs_set (i := 7) (ve_tup (va_cons (ve_maxL rfl (by rfl) T.z_max (va_cons ((vf_comp rfl sc_law.nd (own := [("one", 9)]) (blkOk_by (N := ["script", "town", "body", "now", "reach_of", "quarters", "left", "right", "told", "one", "k", "number"]) (sc := defScope st_law) (by decide +kernel)) (vi_seq (ve_var 2)) (fun b => ⟨vge_name 9 sc_law.nd, vts_nil, vp_emit rfl (ve_ix (ve_var 9) (ve_int))⟩)).ve) (va_nil))) (va_cons (ve_maxL rfl (by rfl) T.z_max (va_cons ((vf_comp rfl sc_law.nd (own := [("one", 9)]) (blkOk_by (N := ["script", "town", "body", "now", "reach_of", "quarters", "left", "right", "told", "one", "k", "number"]) (sc := defScope st_law) (by decide +kernel)) (vi_seq (ve_var 2)) (fun b => ⟨vge_name 9 sc_law.nd, vts_nil, vp_emit rfl (ve_ix (ve_var 9) (ve_int))⟩)).ve) (va_nil))) (va_nil)))) sc_law.nd)
    (vb_cons (vs_if (VW.vt (vw_or (vt_ne (u64 hr) (ve_fn (ok_body_box T) (hr.mono (by decide)) (by rfl) T.m_body_box T.F_body_box.kp T.b_body_box (va_cons (ve_var 2) (va_nil))) (ve_add (ve_var 6) (ve_var 7))) (vw_or1 (vt_ne (u64 hr) (ve_fn (ok_turned_body T) (hr.mono (by decide)) (by rfl) T.m_turned_body T.F_turned_body.kp T.b_turned_body (va_cons (ve_var 2) (va_nil))) (ve_fn (ok_turned T) (hr.mono (by decide)) (by rfl) T.m_turned T.F_turned.kp T.b_turned (va_cons (ve_var 2) (va_cons (ve_int) (va_nil))))))))
    (vb_one (vs_ret (ve_bl)))
    (vb_nil))
    (vb_one (vs_ret (ve_and (ve_fn (ok__law_is T) (hr.mono (by decide)) (by rfl) T.m__law_is T.F__law_is.kp T.b__law_is (va_cons (ve_fn (ok_is_even T) (hr.mono (by decide)) (by rfl) T.m_is_even T.F_is_even.kp T.b_is_even (va_cons (ve_var 2) (va_nil))) (va_cons (ve_eq (u64 hr) (ve_fn (ok__law_shape T) (hr.mono (by decide)) (by rfl) T.m__law_shape T.F__law_shape.kp T.b__law_shape (va_cons (ve_var 2) (va_cons (ve_int) (va_nil)))) (ve_fn (ok__law_shape T) (hr.mono (by decide)) (by rfl) T.m__law_shape T.F__law_shape.kp T.b__law_shape (va_cons (ve_var 2) (va_cons (ve_int) (va_nil))))) (va_nil)))) (ve_one (ve_is (ve_fn (ok_is_even T) (hr.mono (by decide)) (by rfl) T.m_is_even T.F_is_even.kp T.b_is_even (va_cons (ve_tup (va_cons (ve_tup (va_cons (ve_sub (ve_int) (ve_int)) (va_cons (ve_sub (ve_int) (ve_int)) (va_cons (ve_int) (va_cons (ve_int) (va_nil)))))) (va_nil))) (va_nil))) (ve_bl))))))))))))))) ok
end
theorem all_mk {l : PySem.W.OpenLaw} {w : World} {K : PySem.W.Frag} {h : Heap} {mg : Str → Option Value} {fa : Addr} (X : K.In h) (G : h.Ns mainGlobals mg) (hfa : mg "law" = some (.ref fa)) (ok : ∀ ns : List Int, ns.length ≤ 63 → isTrueOut (B_law (stLaw 12 ns)) = true)
    {f0 : Addr} {od0 an0 : Option Addr} {sl0 : Array (Option Value)} {oc0 kV0 dc0 pm0 cd0 ct0 : Value}
    (a0 : PySem.W.nsIn K mainGlobals "_law_town" = some (some (.ref f0))) (l0 : K.lookup f0 = some ⟨oc0, od0, .func (PySem.W.fnOf "_law_town" "_law_town" (defArgs (topS 26)) (defBody (topS 26)) (defScope (topS 26)) .none kV0 dc0 pm0 an0 cd0 ct0), sl0⟩) (c0 : PySem.W.codeIn K cd0 "_law_town" = true) (k0 : PySem.W.keepIn K (.ref f0) = true)
    {f1 : Addr} {od1 an1 : Option Addr} {sl1 : Array (Option Value)} {oc1 kV1 dc1 pm1 cd1 ct1 : Value}
    (a1 : PySem.W.nsIn K mainGlobals "is_whole" = some (some (.ref f1))) (l1 : K.lookup f1 = some ⟨oc1, od1, .func (PySem.W.fnOf "is_whole" "is_whole" (defArgs (topS 4)) (defBody (topS 4)) (defScope (topS 4)) .none kV1 dc1 pm1 an1 cd1 ct1), sl1⟩) (c1 : PySem.W.codeIn K cd1 "is_whole" = true) (k1 : PySem.W.keepIn K (.ref f1) = true)
    {f2 : Addr} {od2 an2 : Option Addr} {sl2 : Array (Option Value)} {oc2 kV2 dc2 pm2 cd2 ct2 : Value}
    (a2 : PySem.W.nsIn K mainGlobals "is_rect" = some (some (.ref f2))) (l2 : K.lookup f2 = some ⟨oc2, od2, .func (PySem.W.fnOf "is_rect" "is_rect" (defArgs (topS 7)) (defBody (topS 7)) (defScope (topS 7)) .none kV2 dc2 pm2 an2 cd2 ct2), sl2⟩) (c2 : PySem.W.codeIn K cd2 "is_rect" = true) (k2 : PySem.W.keepIn K (.ref f2) = true)
    {f3 : Addr} {od3 an3 : Option Addr} {sl3 : Array (Option Value)} {oc3 kV3 dc3 pm3 cd3 ct3 : Value}
    (a3 : PySem.W.nsIn K mainGlobals "is_body" = some (some (.ref f3))) (l3 : K.lookup f3 = some ⟨oc3, od3, .func (PySem.W.fnOf "is_body" "is_body" (defArgs (topS 12)) (defBody (topS 12)) (defScope (topS 12)) .none kV3 dc3 pm3 an3 cd3 ct3), sl3⟩) (c3 : PySem.W.codeIn K cd3 "is_body" = true) (k3 : PySem.W.keepIn K (.ref f3) = true)
    {f4 : Addr} {od4 an4 : Option Addr} {sl4 : Array (Option Value)} {oc4 kV4 dc4 pm4 cd4 ct4 : Value}
    (a4 : PySem.W.nsIn K mainGlobals "look_body" = some (some (.ref f4))) (l4 : K.lookup f4 = some ⟨oc4, od4, .func (PySem.W.fnOf "look_body" "look_body" (defArgs (topS 13)) (defBody (topS 13)) (defScope (topS 13)) .none kV4 dc4 pm4 an4 cd4 ct4), sl4⟩) (c4 : PySem.W.codeIn K cd4 "look_body" = true) (k4 : PySem.W.keepIn K (.ref f4) = true)
    {f5 : Addr} {od5 an5 : Option Addr} {sl5 : Array (Option Value)} {oc5 kV5 dc5 pm5 cd5 ct5 : Value}
    (a5 : PySem.W.nsIn K mainGlobals "look_number" = some (some (.ref f5))) (l5 : K.lookup f5 = some ⟨oc5, od5, .func (PySem.W.fnOf "look_number" "look_number" (defArgs (topS 5)) (defBody (topS 5)) (defScope (topS 5)) .none kV5 dc5 pm5 an5 cd5 ct5), sl5⟩) (c5 : PySem.W.codeIn K cd5 "look_number" = true) (k5 : PySem.W.keepIn K (.ref f5) = true)
    {f6 : Addr} {od6 an6 : Option Addr} {sl6 : Array (Option Value)} {oc6 kV6 dc6 pm6 cd6 ct6 : Value}
    (a6 : PySem.W.nsIn K mainGlobals "quarter" = some (some (.ref f6))) (l6 : K.lookup f6 = some ⟨oc6, od6, .func (PySem.W.fnOf "quarter" "quarter" (defArgs (topS 14)) (defBody (topS 14)) (defScope (topS 14)) .none kV6 dc6 pm6 an6 cd6 ct6), sl6⟩) (c6 : PySem.W.codeIn K cd6 "quarter" = true) (k6 : PySem.W.keepIn K (.ref f6) = true)
    {f7 : Addr} {od7 an7 : Option Addr} {sl7 : Array (Option Value)} {oc7 kV7 dc7 pm7 cd7 ct7 : Value}
    (a7 : PySem.W.nsIn K mainGlobals "turned_by" = some (some (.ref f7))) (l7 : K.lookup f7 = some ⟨oc7, od7, .func (PySem.W.fnOf "turned_by" "turned_by" (defArgs (topS 15)) (defBody (topS 15)) (defScope (topS 15)) .none kV7 dc7 pm7 an7 cd7 ct7), sl7⟩) (c7 : PySem.W.codeIn K cd7 "turned_by" = true) (k7 : PySem.W.keepIn K (.ref f7) = true)
    {f8 : Addr} {od8 an8 : Option Addr} {sl8 : Array (Option Value)} {oc8 kV8 dc8 pm8 cd8 ct8 : Value}
    (a8 : PySem.W.nsIn K mainGlobals "turned" = some (some (.ref f8))) (l8 : K.lookup f8 = some ⟨oc8, od8, .func (PySem.W.fnOf "turned" "turned" (defArgs (topS 16)) (defBody (topS 16)) (defScope (topS 16)) .none kV8 dc8 pm8 an8 cd8 ct8), sl8⟩) (c8 : PySem.W.codeIn K cd8 "turned" = true) (k8 : PySem.W.keepIn K (.ref f8) = true)
    {f9 : Addr} {od9 an9 : Option Addr} {sl9 : Array (Option Value)} {oc9 kV9 dc9 pm9 cd9 ct9 : Value}
    (a9 : PySem.W.nsIn K mainGlobals "_law_is" = some (some (.ref f9))) (l9 : K.lookup f9 = some ⟨oc9, od9, .func (PySem.W.fnOf "_law_is" "_law_is" (defArgs (topS 28)) (defBody (topS 28)) (defScope (topS 28)) .none kV9 dc9 pm9 an9 cd9 ct9), sl9⟩) (c9 : PySem.W.codeIn K cd9 "_law_is" = true) (k9 : PySem.W.keepIn K (.ref f9) = true)
    {f10 : Addr} {od10 an10 : Option Addr} {sl10 : Array (Option Value)} {oc10 kV10 dc10 pm10 cd10 ct10 : Value}
    (a10 : PySem.W.nsIn K mainGlobals "_law_draw" = some (some (.ref f10))) (l10 : K.lookup f10 = some ⟨oc10, od10, .func (PySem.W.fnOf "_law_draw" "_law_draw" (defArgs (topS 27)) (defBody (topS 27)) (defScope (topS 27)) .none kV10 dc10 pm10 an10 cd10 ct10), sl10⟩) (c10 : PySem.W.codeIn K cd10 "_law_draw" = true) (k10 : PySem.W.keepIn K (.ref f10) = true)
    {f11 : Addr} {od11 an11 : Option Addr} {sl11 : Array (Option Value)} {oc11 kV11 dc11 pm11 cd11 ct11 : Value}
    (a11 : PySem.W.nsIn K mainGlobals "_law_rect" = some (some (.ref f11))) (l11 : K.lookup f11 = some ⟨oc11, od11, .func (PySem.W.fnOf "_law_rect" "_law_rect" (defArgs (topS 29)) (defBody (topS 29)) (defScope (topS 29)) .none kV11 dc11 pm11 an11 cd11 ct11), sl11⟩) (c11 : PySem.W.codeIn K cd11 "_law_rect" = true) (k11 : PySem.W.keepIn K (.ref f11) = true)
    {f12 : Addr} {od12 an12 : Option Addr} {sl12 : Array (Option Value)} {oc12 kV12 dc12 pm12 cd12 ct12 : Value}
    (a12 : PySem.W.nsIn K mainGlobals "covered_by" = some (some (.ref f12))) (l12 : K.lookup f12 = some ⟨oc12, od12, .func (PySem.W.fnOf "covered_by" "covered_by" (defArgs (topS 8)) (defBody (topS 8)) (defScope (topS 8)) .none kV12 dc12 pm12 an12 cd12 ct12), sl12⟩) (c12 : PySem.W.codeIn K cd12 "covered_by" = true) (k12 : PySem.W.keepIn K (.ref f12) = true)
    {f13 : Addr} {od13 an13 : Option Addr} {sl13 : Array (Option Value)} {oc13 kV13 dc13 pm13 cd13 ct13 : Value}
    (a13 : PySem.W.nsIn K mainGlobals "body_area" = some (some (.ref f13))) (l13 : K.lookup f13 = some ⟨oc13, od13, .func (PySem.W.fnOf "body_area" "body_area" (defArgs (topS 19)) (defBody (topS 19)) (defScope (topS 19)) .none kV13 dc13 pm13 an13 cd13 ct13), sl13⟩) (c13 : PySem.W.codeIn K cd13 "body_area" = true) (k13 : PySem.W.keepIn K (.ref f13) = true)
    {f14 : Addr} {od14 an14 : Option Addr} {sl14 : Array (Option Value)} {oc14 kV14 dc14 pm14 cd14 ct14 : Value}
    (a14 : PySem.W.nsIn K mainGlobals "frame_of" = some (some (.ref f14))) (l14 : K.lookup f14 = some ⟨oc14, od14, .func (PySem.W.fnOf "frame_of" "frame_of" (defArgs (topS 17)) (defBody (topS 17)) (defScope (topS 17)) .none kV14 dc14 pm14 an14 cd14 ct14), sl14⟩) (c14 : PySem.W.codeIn K cd14 "frame_of" = true) (k14 : PySem.W.keepIn K (.ref f14) = true)
    {f15 : Addr} {od15 an15 : Option Addr} {sl15 : Array (Option Value)} {oc15 kV15 dc15 pm15 cd15 ct15 : Value}
    (a15 : PySem.W.nsIn K mainGlobals "frame" = some (some (.ref f15))) (l15 : K.lookup f15 = some ⟨oc15, od15, .func (PySem.W.fnOf "frame" "frame" (defArgs (topS 18)) (defBody (topS 18)) (defScope (topS 18)) .none kV15 dc15 pm15 an15 cd15 ct15), sl15⟩) (c15 : PySem.W.codeIn K cd15 "frame" = true) (k15 : PySem.W.keepIn K (.ref f15) = true)
    {f16 : Addr} {od16 an16 : Option Addr} {sl16 : Array (Option Value)} {oc16 kV16 dc16 pm16 cd16 ct16 : Value}
    (a16 : PySem.W.nsIn K mainGlobals "box_of" = some (some (.ref f16))) (l16 : K.lookup f16 = some ⟨oc16, od16, .func (PySem.W.fnOf "box_of" "box_of" (defArgs (topS 20)) (defBody (topS 20)) (defScope (topS 20)) .none kV16 dc16 pm16 an16 cd16 ct16), sl16⟩) (c16 : PySem.W.codeIn K cd16 "box_of" = true) (k16 : PySem.W.keepIn K (.ref f16) = true)
    {f17 : Addr} {od17 an17 : Option Addr} {sl17 : Array (Option Value)} {oc17 kV17 dc17 pm17 cd17 ct17 : Value}
    (a17 : PySem.W.nsIn K mainGlobals "body_box" = some (some (.ref f17))) (l17 : K.lookup f17 = some ⟨oc17, od17, .func (PySem.W.fnOf "body_box" "body_box" (defArgs (topS 21)) (defBody (topS 21)) (defScope (topS 21)) .none kV17 dc17 pm17 an17 cd17 ct17), sl17⟩) (c17 : PySem.W.codeIn K cd17 "body_box" = true) (k17 : PySem.W.keepIn K (.ref f17) = true)
    {f18 : Addr} {od18 an18 : Option Addr} {sl18 : Array (Option Value)} {oc18 kV18 dc18 pm18 cd18 ct18 : Value}
    (a18 : PySem.W.nsIn K mainGlobals "turned_body" = some (some (.ref f18))) (l18 : K.lookup f18 = some ⟨oc18, od18, .func (PySem.W.fnOf "turned_body" "turned_body" (defArgs (topS 24)) (defBody (topS 24)) (defScope (topS 24)) .none kV18 dc18 pm18 an18 cd18 ct18), sl18⟩) (c18 : PySem.W.codeIn K cd18 "turned_body" = true) (k18 : PySem.W.keepIn K (.ref f18) = true)
    {f19 : Addr} {od19 an19 : Option Addr} {sl19 : Array (Option Value)} {oc19 kV19 dc19 pm19 cd19 ct19 : Value}
    (a19 : PySem.W.nsIn K mainGlobals "is_even" = some (some (.ref f19))) (l19 : K.lookup f19 = some ⟨oc19, od19, .func (PySem.W.fnOf "is_even" "is_even" (defArgs (topS 22)) (defBody (topS 22)) (defScope (topS 22)) .none kV19 dc19 pm19 an19 cd19 ct19), sl19⟩) (c19 : PySem.W.codeIn K cd19 "is_even" = true) (k19 : PySem.W.keepIn K (.ref f19) = true)
    {f20 : Addr} {od20 an20 : Option Addr} {sl20 : Array (Option Value)} {oc20 kV20 dc20 pm20 cd20 ct20 : Value}
    (a20 : PySem.W.nsIn K mainGlobals "_law_cells" = some (some (.ref f20))) (l20 : K.lookup f20 = some ⟨oc20, od20, .func (PySem.W.fnOf "_law_cells" "_law_cells" (defArgs (topS 30)) (defBody (topS 30)) (defScope (topS 30)) .none kV20 dc20 pm20 an20 cd20 ct20), sl20⟩) (c20 : PySem.W.codeIn K cd20 "_law_cells" = true) (k20 : PySem.W.keepIn K (.ref f20) = true)
    {f21 : Addr} {od21 an21 : Option Addr} {sl21 : Array (Option Value)} {oc21 kV21 dc21 pm21 cd21 ct21 : Value}
    (a21 : PySem.W.nsIn K mainGlobals "_law_shape" = some (some (.ref f21))) (l21 : K.lookup f21 = some ⟨oc21, od21, .func (PySem.W.fnOf "_law_shape" "_law_shape" (defArgs (topS 31)) (defBody (topS 31)) (defScope (topS 31)) .none kV21 dc21 pm21 an21 cd21 ct21), sl21⟩) (c21 : PySem.W.codeIn K cd21 "_law_shape" = true) (k21 : PySem.W.keepIn K (.ref f21) = true)
    {f22 : Addr} {od22 an22 : Option Addr} {sl22 : Array (Option Value)} {oc22 kV22 dc22 pm22 cd22 ct22 : Value}
    (a22 : PySem.W.nsIn K mainGlobals "law" = some (some (.ref f22))) (l22 : K.lookup f22 = some ⟨oc22, od22, .func (PySem.W.fnOf "law" "law" (defArgs (topS 32)) (defBody (topS 32)) (defScope (topS 32)) .none kV22 dc22 pm22 an22 cd22 ct22), sl22⟩) (c22 : PySem.W.codeIn K cd22 "law" = true) (k22 : PySem.W.keepIn K (.ref f22) = true)
    (z0 : PySem.W.nsIn K mainGlobals "abs" = some none)
    (z1 : PySem.W.nsIn K mainGlobals "all" = some none)
    (z2 : PySem.W.nsIn K mainGlobals "bool" = some none)
    (z3 : PySem.W.nsIn K mainGlobals "int" = some none)
    (z4 : PySem.W.nsIn K mainGlobals "isinstance" = some none)
    (z5 : PySem.W.nsIn K mainGlobals "len" = some none)
    (z6 : PySem.W.nsIn K mainGlobals "list" = some none)
    (z7 : PySem.W.nsIn K mainGlobals "max" = some none)
    (z8 : PySem.W.nsIn K mainGlobals "min" = some none)
    (z9 : PySem.W.nsIn K mainGlobals "range" = some none)
    (z10 : PySem.W.nsIn K mainGlobals "set" = some none)
    (z11 : PySem.W.nsIn K mainGlobals "sorted" = some none)
    (z12 : PySem.W.nsIn K mainGlobals "tuple" = some none)
    {t0 : Tok} (n0 : PySem.W.nsIn K mainGlobals "MOST" = some (some (.int 8 t0)))
    {t1 : Tok} (n1 : PySem.W.nsIn K mainGlobals "MOST_RECTS" = some (some (.int 6 t1)))
    : ∃ fd : FuncData, (∀ (s : Shared) (v : Value), BindsTo s fd ⟨[v], []⟩ [("script", v)]) ∧ ∀ base : Heap, K.In base → base.Ns mainGlobals mg → FnOk l.prog w K mg base CX0 6 fa fd ["script"] (spLaw K) := by
  have e := hfa.symm.trans (PySem.W.mg_of X G a22)
  cases e
  have F0 := fun_mk (st := topS 26) l0 c0 k0
  have F1 := fun_mk (st := topS 4) l1 c1 k1
  have F2 := fun_mk (st := topS 7) l2 c2 k2
  have F3 := fun_mk (st := topS 12) l3 c3 k3
  have F4 := fun_mk (st := topS 13) l4 c4 k4
  have F5 := fun_mk (st := topS 5) l5 c5 k5
  have F6 := fun_mk (st := topS 14) l6 c6 k6
  have F7 := fun_mk (st := topS 15) l7 c7 k7
  have F8 := fun_mk (st := topS 16) l8 c8 k8
  have F9 := fun_mk (st := topS 28) l9 c9 k9
  have F10 := fun_mk (st := topS 27) l10 c10 k10
  have F11 := fun_mk (st := topS 29) l11 c11 k11
  have F12 := fun_mk (st := topS 8) l12 c12 k12
  have F13 := fun_mk (st := topS 19) l13 c13 k13
  have F14 := fun_mk (st := topS 17) l14 c14 k14
  have F15 := fun_mk (st := topS 18) l15 c15 k15
  have F16 := fun_mk (st := topS 20) l16 c16 k16
  have F17 := fun_mk (st := topS 21) l17 c17 k17
  have F18 := fun_mk (st := topS 24) l18 c18 k18
  have F19 := fun_mk (st := topS 22) l19 c19 k19
  have F20 := fun_mk (st := topS 30) l20 c20 k20
  have F21 := fun_mk (st := topS 31) l21 c21 k21
  have F22 := fun_mk (st := topS 32) l22 c22 k22
  exact ⟨PySem.W.fnOf "law" "law" (defArgs (topS 32)) (defBody (topS 32)) (defScope (topS 32)) .none kV22 dc22 pm22 an22 cd22 ct22, fun s v => .of_eq rfl, fun base _ _ => ok_law' (T := {
    f__law_town := f0
    fd__law_town := _
    F__law_town := F0
    m__law_town := PySem.W.mg_of X G a0
    b__law_town := F0.binds fun _ _ _ _ _ _ us hl => match us, hl with | [_], _ => rfl
    f_is_whole := f1
    fd_is_whole := _
    F_is_whole := F1
    m_is_whole := PySem.W.mg_of X G a1
    b_is_whole := F1.binds fun _ _ _ _ _ _ us hl => match us, hl with | [_, _, _], _ => rfl
    f_is_rect := f2
    fd_is_rect := _
    F_is_rect := F2
    m_is_rect := PySem.W.mg_of X G a2
    b_is_rect := F2.binds fun _ _ _ _ _ _ us hl => match us, hl with | [_, _, _], _ => rfl
    f_is_body := f3
    fd_is_body := _
    F_is_body := F3
    m_is_body := PySem.W.mg_of X G a3
    b_is_body := F3.binds fun _ _ _ _ _ _ us hl => match us, hl with | [_], _ => rfl
    f_look_body := f4
    fd_look_body := _
    F_look_body := F4
    m_look_body := PySem.W.mg_of X G a4
    b_look_body := F4.binds fun _ _ _ _ _ _ us hl => match us, hl with | [_], _ => rfl
    f_look_number := f5
    fd_look_number := _
    F_look_number := F5
    m_look_number := PySem.W.mg_of X G a5
    b_look_number := F5.binds fun _ _ _ _ _ _ us hl => match us, hl with | [_, _, _], _ => rfl
    f_quarter := f6
    fd_quarter := _
    F_quarter := F6
    m_quarter := PySem.W.mg_of X G a6
    b_quarter := F6.binds fun _ _ _ _ _ _ us hl => match us, hl with | [_], _ => rfl
    f_turned_by := f7
    fd_turned_by := _
    F_turned_by := F7
    m_turned_by := PySem.W.mg_of X G a7
    b_turned_by := F7.binds fun _ _ _ _ _ _ us hl => match us, hl with | [_, _], _ => rfl
    f_turned := f8
    fd_turned := _
    F_turned := F8
    m_turned := PySem.W.mg_of X G a8
    b_turned := F8.binds fun _ _ _ _ _ _ us hl => match us, hl with | [_, _], _ => rfl
    f__law_is := f9
    fd__law_is := _
    F__law_is := F9
    m__law_is := PySem.W.mg_of X G a9
    b__law_is := F9.binds fun _ _ _ _ _ _ us hl => match us, hl with | [_, _], _ => rfl
    f__law_draw := f10
    fd__law_draw := _
    F__law_draw := F10
    m__law_draw := PySem.W.mg_of X G a10
    b__law_draw := F10.binds fun _ _ _ _ _ _ us hl => match us, hl with | [_, _], _ => rfl
    f__law_rect := f11
    fd__law_rect := _
    F__law_rect := F11
    m__law_rect := PySem.W.mg_of X G a11
    b__law_rect := F11.binds fun _ _ _ _ _ _ us hl => match us, hl with | [_, _], _ => rfl
    f_covered_by := f12
    fd_covered_by := _
    F_covered_by := F12
    m_covered_by := PySem.W.mg_of X G a12
    b_covered_by := F12.binds fun _ _ _ _ _ _ us hl => match us, hl with | [_], _ => rfl
    f_body_area := f13
    fd_body_area := _
    F_body_area := F13
    m_body_area := PySem.W.mg_of X G a13
    b_body_area := F13.binds fun _ _ _ _ _ _ us hl => match us, hl with | [_], _ => rfl
    f_frame_of := f14
    fd_frame_of := _
    F_frame_of := F14
    m_frame_of := PySem.W.mg_of X G a14
    b_frame_of := F14.binds fun _ _ _ _ _ _ us hl => match us, hl with | [_], _ => rfl
    f_frame := f15
    fd_frame := _
    F_frame := F15
    m_frame := PySem.W.mg_of X G a15
    b_frame := F15.binds fun _ _ _ _ _ _ us hl => match us, hl with | [_], _ => rfl
    f_box_of := f16
    fd_box_of := _
    F_box_of := F16
    m_box_of := PySem.W.mg_of X G a16
    b_box_of := F16.binds fun _ _ _ _ _ _ us hl => match us, hl with | [_], _ => rfl
    f_body_box := f17
    fd_body_box := _
    F_body_box := F17
    m_body_box := PySem.W.mg_of X G a17
    b_body_box := F17.binds fun _ _ _ _ _ _ us hl => match us, hl with | [_], _ => rfl
    f_turned_body := f18
    fd_turned_body := _
    F_turned_body := F18
    m_turned_body := PySem.W.mg_of X G a18
    b_turned_body := F18.binds fun _ _ _ _ _ _ us hl => match us, hl with | [_], _ => rfl
    f_is_even := f19
    fd_is_even := _
    F_is_even := F19
    m_is_even := PySem.W.mg_of X G a19
    b_is_even := F19.binds fun _ _ _ _ _ _ us hl => match us, hl with | [_], _ => rfl
    f__law_cells := f20
    fd__law_cells := _
    F__law_cells := F20
    m__law_cells := PySem.W.mg_of X G a20
    b__law_cells := F20.binds fun _ _ _ _ _ _ us hl => match us, hl with | [_], _ => rfl
    f__law_shape := f21
    fd__law_shape := _
    F__law_shape := F21
    m__law_shape := PySem.W.mg_of X G a21
    b__law_shape := F21.binds fun _ _ _ _ _ _ us hl => match us, hl with | [_, _], _ => rfl
    f_law := fa
    fd_law := _
    F_law := F22
    m_law := PySem.W.mg_of X G a22
    b_law := F22.binds fun _ _ _ _ _ _ us hl => match us, hl with | [_], _ => rfl
    z_abs := PySem.W.mg_none_of X G z0
    z_all := PySem.W.mg_none_of X G z1
    z_bool := PySem.W.mg_none_of X G z2
    z_int := PySem.W.mg_none_of X G z3
    z_isinstance := PySem.W.mg_none_of X G z4
    z_len := PySem.W.mg_none_of X G z5
    z_list := PySem.W.mg_none_of X G z6
    z_max := PySem.W.mg_none_of X G z7
    z_min := PySem.W.mg_none_of X G z8
    z_range := PySem.W.mg_none_of X G z9
    z_set := PySem.W.mg_none_of X G z10
    z_sorted := PySem.W.mg_none_of X G z11
    z_tuple := PySem.W.mg_none_of X G z12
    k_MOST := t0
    c_MOST := PySem.W.mg_of X G n0
    k_MOST_RECTS := t1
    c_MOST_RECTS := PySem.W.mg_of X G n1 }) ok⟩

end Fx
-- k02h
namespace Fx
end Fx
open PySem PySem.W PyProof.Rows
set_option maxHeartbeats 0 in
theorem PySem.Challenge.cw_moveways_k02_whole_bodies_holds : PySem.Challenge.rw_moveways_k02_whole_bodies.Holds := by
  w_on; o_law; k_head; (case hw => w_witness2)
  k_fill
  refine L2.walk_of (l := PySem.Challenge.rw_moveways_k02_whole_bodies) (n := 63) (k := 6) (x := "script") (CX := fun _ => L2.CX0) (sp := fun w => Fx.spLaw _) rfl (by decide) rfl ⟨rfl, by decide, by decide⟩ (fun w h Y => PySem.W.kIn_of Y) ?F (fun _ _ a ns hl _ hS => ⟨a, ns, rfl, hS, hl, fun _ => rfl⟩) (fun _ _ _ _ _ h => h)
  case F =>
    intro w mg fa h KX G hmg
    refine' Fx.all_mk KX G hmg Fx.law_true ?a0 ?l0 ?c0 ?k0 ?a1 ?l1 ?c1 ?k1 ?a2 ?l2 ?c2 ?k2 ?a3 ?l3 ?c3 ?k3 ?a4 ?l4 ?c4 ?k4 ?a5 ?l5 ?c5 ?k5 ?a6 ?l6 ?c6 ?k6 ?a7 ?l7 ?c7 ?k7 ?a8 ?l8 ?c8 ?k8 ?a9 ?l9 ?c9 ?k9 ?a10 ?l10 ?c10 ?k10 ?a11 ?l11 ?c11 ?k11 ?a12 ?l12 ?c12 ?k12 ?a13 ?l13 ?c13 ?k13 ?a14 ?l14 ?c14 ?k14 ?a15 ?l15 ?c15 ?k15 ?a16 ?l16 ?c16 ?k16 ?a17 ?l17 ?c17 ?k17 ?a18 ?l18 ?c18 ?k18 ?a19 ?l19 ?c19 ?k19 ?a20 ?l20 ?c20 ?k20 ?a21 ?l21 ?c21 ?k21 ?a22 ?l22 ?c22 ?k22 ?z0 ?z1 ?z2 ?z3 ?z4 ?z5 ?z6 ?z7 ?z8 ?z9 ?z10 ?z11 ?z12 ?n0 ?n1
    (case a0 => k_is); (case l0 => k_is); (case c0 => k_is); (case k0 => k_is); (case a1 => k_is); (case l1 => k_is); (case c1 => k_is); (case k1 => k_is); (case a2 => k_is); (case l2 => k_is); (case c2 => k_is); (case k2 => k_is); (case a3 => k_is); (case l3 => k_is); (case c3 => k_is); (case k3 => k_is); (case a4 => k_is); (case l4 => k_is); (case c4 => k_is); (case k4 => k_is); (case a5 => k_is); (case l5 => k_is); (case c5 => k_is); (case k5 => k_is); (case a6 => k_is); (case l6 => k_is); (case c6 => k_is); (case k6 => k_is); (case a7 => k_is); (case l7 => k_is); (case c7 => k_is); (case k7 => k_is); (case a8 => k_is); (case l8 => k_is); (case c8 => k_is); (case k8 => k_is); (case a9 => k_is); (case l9 => k_is); (case c9 => k_is); (case k9 => k_is); (case a10 => k_is); (case l10 => k_is); (case c10 => k_is); (case k10 => k_is); (case a11 => k_is); (case l11 => k_is); (case c11 => k_is); (case k11 => k_is); (case a12 => k_is); (case l12 => k_is); (case c12 => k_is); (case k12 => k_is); (case a13 => k_is); (case l13 => k_is); (case c13 => k_is); (case k13 => k_is); (case a14 => k_is); (case l14 => k_is); (case c14 => k_is); (case k14 => k_is); (case a15 => k_is); (case l15 => k_is); (case c15 => k_is); (case k15 => k_is); (case a16 => k_is); (case l16 => k_is); (case c16 => k_is); (case k16 => k_is); (case a17 => k_is); (case l17 => k_is); (case c17 => k_is); (case k17 => k_is); (case a18 => k_is); (case l18 => k_is); (case c18 => k_is); (case k18 => k_is); (case a19 => k_is); (case l19 => k_is); (case c19 => k_is); (case k19 => k_is); (case a20 => k_is); (case l20 => k_is); (case c20 => k_is); (case k20 => k_is); (case a21 => k_is); (case l21 => k_is); (case c21 => k_is); (case k21 => k_is); (case a22 => k_is); (case l22 => k_is); (case c22 => k_is); (case k22 => k_is); (case z0 => k_is); (case z1 => k_is); (case z2 => k_is); (case z3 => k_is); (case z4 => k_is); (case z5 => k_is); (case z6 => k_is); (case z7 => k_is); (case z8 => k_is); (case z9 => k_is); (case z10 => k_is); (case z11 => k_is); (case z12 => k_is); (case n0 => k_is); (case n1 => k_is)
