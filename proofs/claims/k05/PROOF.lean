import PyProof.Rows.All
import Wide.All
import OpenK.AllK
import Wide.FinOn
import HandS.ForMost
import HandS.Walk
import HandS.SortInts
import HandS.IsInst
import KE.SortData
import HandS.Dict
import HandS.Iter
import HandS.Deep
import HandS.TupAny
import HandS.Style
import HandS.TupMul
import PyProof.Rows.InDataRows
import KE.GoesSet
import HandS.SetFor
import HandS.TupSets
import PyProof.Transfer
import HandS.Defaults
import HandS.MakeKwOnly
import HandS.DictEq
import HandS.Flt
import HandS.SetBool
import HandS.Exc
import HandS.ExcOwn
import HandS.ExcIs
import HandS.WordsExc
import HandS.ExcValue
import HandS.TryMany
import KE.DataFind
import KE.KExcIs
import HandS.ExcInit
import HandS.CallSlots
import HandS.ExcField
import PyProof.TableCode
import PySem.Challenge.RW_moveways_k05_standings_refused
set_option Elab.async false
set_option linter.all false
set_option maxRecDepth 100000
set_option maxHeartbeats 4000000
set_option autoImplicit false
-- Fx0
namespace Fx
open PySem PySem.Spec L2

abbrev D := PyData
/-- the program, the world, the written part -/
structure Ev where
  P : Program
  w : World
  K : PySem.W.Frag
abbrev evX (X : Cx) : Ev := ⟨X.prog, X.w, X.K⟩
/-- no tuple -/
def NT (o : HO) : Prop := ∀ xs, o ≠ .tup xs
def keyD : Key → D
  | .inl i => .int i
  | .inr x => .str x

/-- the empty tuple of the written part -/
def KT0 (K : PySem.W.Frag) (a : Addr) : Prop := ∃ (o : Obj) (its : Array Value) (n : Nat), K.lookup a = some o ∧ o.cls = .type "tuple" ∧ o.data = .seq its n ∧ its.size ≤ sizeLine ∧ Vals [] its.toList
def TupAt (K : PySem.W.Frag) (Av : Addr → Prop) (H : Hp) (a : Addr) (xs : List V) : Prop := (¬ Av a ∧ H a = some (.tup xs)) ∨ (xs = [] ∧ KT0 K a)
theorem TupAt.sqt {K : PySem.W.Frag} {Av : Addr → Prop} {H : Hp} {a : Addr} {xs : List V} (h : TupAt K Av H a xs) : SqT K H a xs := by
  rcases h with h | ⟨rfl, h⟩
  · exact .inl (.inl h.2)
  · exact .inr h
section
variable (E : Ev) (Av : Addr → Prop) (H : Hp)
mutual
inductive Rep : V → D → Prop
  | non : Rep .non .none
  | bl (b : Bool) : Rep (.bl b) (.bool b)
  | int (i : Int) : Rep (.int i) (.int i)
  | str (x : Str) : Rep (.str x) (.str x)
  | tup {a : Addr} {xs : List V} {ds : List D} : TupAt E.K Av H a xs → Reps xs ds → Rep (.ref a) (.tuple ds)
  | lst {a : Addr} {xs : List V} {ds : List D} : ¬ Av a → H a = some (.lst xs) → Reps xs ds → Rep (.ref a) (.list ds)
  | dt {a : Addr} {o : Obj} {xs : List (List Key × V)} {kvs : List (D × D)} : ¬ Av a → H a = some (.frz o (.dT xs)) → EntsT xs kvs → Rep (.ref a) (.dict kvs)
  | dk {a : Addr} {o : Obj} {xs : List (Key × V)} {kvs : List (D × D)} : ¬ Av a → H a = some (.frz o (.dK xs)) → EntsK xs kvs → xs ≠ [] → Rep (.ref a) (.dict kvs)
inductive Reps : List V → List D → Prop
  | nil : Reps [] []
  | cons {v : V} {vs : List V} {d : D} {ds : List D} : Rep v d → Reps vs ds → Reps (v :: vs) (d :: ds)
inductive EntsT : List (List Key × V) → List (D × D) → Prop
  | nil : EntsT [] []
  | cons {k : List Key} {v : V} {d : D} {xs : List (List Key × V)} {kvs : List (D × D)} : k ≠ [] → Rep v d → EntsT xs kvs → EntsT ((k, v) :: xs) ((.tuple (k.map keyD), d) :: kvs)
inductive EntsK : List (Key × V) → List (D × D) → Prop
  | nil : EntsK [] []
  | cons {k : Key} {v : V} {d : D} {xs : List (Key × V)} {kvs : List (D × D)} : Rep v d → EntsK xs kvs → EntsK ((k, v) :: xs) ((keyD k, d) :: kvs)
end
end

section
variable {E : Ev} {Av Av' : Addr → Prop} {H H' : Hp}
/-- what is not barred stays as it is, and stays not barred -/
def Fz (Av Av' : Addr → Prop) (H H' : Hp) : Prop := ∀ a o, ¬ Av a → H a = some o → ¬ Av' a ∧ H' a = some o
theorem Fz.refl : Fz Av Av H H := fun _ _ h e => ⟨h, e⟩
theorem Fz.trans {A1 A2 A3 : Addr → Prop} {H1 H2 H3 : Hp} (a : Fz A1 A2 H1 H2) (b : Fz A2 A3 H2 H3) : Fz A1 A3 H1 H3 := fun x o h e => let ⟨h2, e2⟩ := a x o h e; b x o h2 e2
theorem Fz.of_same {H H' : Hp} (s : Same H H') : Fz Av Av H H' := fun a o h e => ⟨h, s a o e⟩
theorem TupAt.fz {K : PySem.W.Frag} {a : Addr} {xs : List V} (f : Fz Av Av' H H') (h : TupAt K Av H a xs) : TupAt K Av' H' a xs := by
  rcases h with h | h
  · exact .inl (f _ _ h.1 h.2)
  · exact .inr h
mutual
theorem Rep.fz (f : Fz Av Av' H H') : ∀ {v : V} {d : D}, Rep E Av H v d → Rep E Av' H' v d
  | _, _, .non => .non
  | _, _, .bl b => .bl b
  | _, _, .int i => .int i
  | _, _, .str x => .str x
  | _, _, .tup h r => .tup (TupAt.fz f h) (Reps.fz f r)
  | _, _, .lst h e r => .lst (f _ _ h e).1 (f _ _ h e).2 (Reps.fz f r)
  | _, _, .dt h e r => .dt (f _ _ h e).1 (f _ _ h e).2 (EntsT.fz f r)
  | _, _, .dk h e r n => .dk (f _ _ h e).1 (f _ _ h e).2 (EntsK.fz f r) n
theorem Reps.fz (f : Fz Av Av' H H') : ∀ {vs : List V} {ds : List D}, Reps E Av H vs ds → Reps E Av' H' vs ds
  | _, _, .nil => .nil
  | _, _, .cons r t => .cons (Rep.fz f r) (Reps.fz f t)
theorem EntsT.fz (f : Fz Av Av' H H') : ∀ {xs : List (List Key × V)} {kvs : List (D × D)}, EntsT E Av H xs kvs → EntsT E Av' H' xs kvs
  | _, _, .nil => .nil
  | _, _, .cons n r t => .cons n (Rep.fz f r) (EntsT.fz f t)
theorem EntsK.fz (f : Fz Av Av' H H') : ∀ {xs : List (Key × V)} {kvs : List (D × D)}, EntsK E Av H xs kvs → EntsK E Av' H' xs kvs
  | _, _, .nil => .nil
  | _, _, .cons r t => .cons (Rep.fz f r) (EntsK.fz f t)
end
theorem Reps.length {vs : List V} {ds : List D} (r : Reps E Av H vs ds) : vs.length = ds.length := by
  induction vs generalizing ds with
  | nil => cases r; rfl
  | cons v vs ih => cases r with | cons a b => simp [ih b]
theorem Reps.append : ∀ {vs us : List V} {ds es : List D}, Reps E Av H vs ds → Reps E Av H us es → Reps E Av H (vs ++ us) (ds ++ es)
  | _, _, _, _, .nil, s => s
  | _, _, _, _, .cons r t, s => .cons r (Reps.append t s)
theorem Reps.get : ∀ {vs : List V} {ds : List D} {i : Nat} {d : D}, Reps E Av H vs ds → ds[i]? = some d → ∃ v, vs[i]? = some v ∧ Rep E Av H v d
  | _, _, _, _, .nil, e => by simp at e
  | _, _, 0, _, .cons r _, e => by simp at e; subst e; exact ⟨_, rfl, r⟩
  | _, _, i + 1, d, .cons _ t, e => by
    obtain ⟨v, h1, h2⟩ := Reps.get (i := i) (d := d) t (by simpa using e)
    exact ⟨v, by simpa using h1, h2⟩
end
end Fx
-- Fx1
namespace Fx
open PySem PySem.Spec L2

/-- what a slot holds: nothing, a datum (never changed), a list or dict of its own, the town, the town's row -/
inductive C where
  | no | val (d : D) | own (d : D) | tn | rw | any
structure S where
  rho : List C
  tw : Option (List Int × Int)
structure Wt where
  ow : Nat → Option Addr
  tn : Option (Addr × Addr)
structure Cfg where
  H0 : Hp
  O : Addr → Prop
def Cfg.bar (G : Cfg) (p : Addr) : Cfg := { G with O := fun a => G.O a ∨ a = p }
def TownA (tn : Option (Addr × Addr)) (a : Addr) : Prop := ∃ t, tn = some t ∧ (a = t.1 ∨ a = t.2)
def Av (G : Cfg) (W : Wt) (a : Addr) : Prop := G.O a ∨ (∃ i, W.ow i = some a) ∨ TownA W.tn a
def TownOk (tn : Option (Addr × Addr)) (H : Hp) (tw : Option (List Int × Int)) : Prop := match tn, tw with
  | none, none => True
  | some (tl, rl), some (row, n) => tl ≠ rl ∧ H tl = some (.lst [.ref rl, .int n]) ∧ H rl = some (.lst (row.map .int))
  | _, _ => False
/-- an own object's content -/
def Top (E : Ev) (A : Addr → Prop) (H : Hp) (a : Addr) : D → Prop
  | .list ds => ∃ xs, H a = some (.lst xs) ∧ Reps E A H xs ds
  | .dict kvs => (∃ xs, H a = some (.dT xs) ∧ EntsT E A H xs kvs) ∨ (∃ xs, H a = some (.dK xs) ∧ EntsK E A H xs kvs ∧ xs ≠ [])
  | _ => False

structure Rel (E : Ev) (G : Cfg) (W : Wt) (H : Hp) (σ : St) (s : S) : Prop where
  len : s.rho.length = σ.length
  fr : ∀ a o, G.H0 a = some o → ¬ TownA W.tn a → H a = some o
  val : ∀ (i : Nat) (d : D), s.rho[i]? = some (.val d) → ∃ v, σ[i]? = some (some v) ∧ Rep E (Av G W) H v d
  own : ∀ (i : Nat) (d : D), s.rho[i]? = some (.own d) → ∃ a, W.ow i = some a ∧ σ[i]? = some (some (.ref a)) ∧ Top E (Av G W) H a d
  dom : ∀ (i : Nat) (a : Addr), W.ow i = some a → G.H0 a = none ∧ ¬ TownA W.tn a ∧ ¬ G.O a ∧ ∃ d, s.rho[i]? = some (.own d)
  inj : ∀ i j a, W.ow i = some a → W.ow j = some a → i = j
  obj : ∀ a, G.O a → ∃ o, H a = some o ∧ NT o
  tow : TownOk W.tn H s.tw
  tnc : ∀ (i : Nat), s.rho[i]? = some .tn → ∃ tl rl, W.tn = some (tl, rl) ∧ σ[i]? = some (some (.ref tl))
  rwc : ∀ (i : Nat), s.rho[i]? = some .rw → ∃ tl rl, W.tn = some (tl, rl) ∧ σ[i]? = some (some (.ref rl))
  noc : ∀ (i : Nat), s.rho[i]? = some .no → σ[i]? = some none

section
variable {E : Ev} {G : Cfg} {W : Wt} {H H' : Hp} {σ : St} {s s' : S} {A B : Addr → Prop}
theorem Fz.weak (h : ∀ a, B a → A a) : Fz A B H H := fun a _ n e => ⟨fun b => n (h a b), e⟩
theorem Rep.weak {v : V} {d : D} (h : ∀ a, B a → A a) (r : Rep E A H v d) : Rep E B H v d := r.fz (Fz.weak h)
theorem Reps.weak {v : List V} {d : List D} (h : ∀ a, B a → A a) (r : Reps E A H v d) : Reps E B H v d := r.fz (Fz.weak h)
theorem Top.fz {a : Addr} {d : D} (f : Fz A B H H') (e : ∀ o, H a = some o → H' a = some o) (t : Top E A H a d) : Top E B H' a d := by
  cases d with
  | list ds => obtain ⟨xs, h, r⟩ := t; exact ⟨xs, e _ h, r.fz f⟩
  | dict kvs =>
    rcases t with ⟨xs, h, r⟩ | ⟨xs, h, r, z⟩
    · exact .inl ⟨xs, e _ h, r.fz f⟩
    · exact .inr ⟨xs, e _ h, r.fz f, z⟩
  | _ => exact t
theorem Top.there {a : Addr} {d : D} (t : Top E A H a d) : ∃ o, H a = some o ∧ NT o ∧ Mut (some o) := by
  cases d with
  | list ds => obtain ⟨xs, h, r⟩ := t; exact ⟨_, h, fun _ z => (nomatch z), trivial⟩
  | dict kvs =>
    rcases t with ⟨xs, h, _⟩ | ⟨xs, h, _⟩
    · exact ⟨_, h, fun _ z => (nomatch z), trivial⟩
    · exact ⟨_, h, fun _ z => (nomatch z), trivial⟩
  | _ => exact t.elim
/-- a new list is a datum -/
theorem Top.rep {a : Addr} {ds : List D} (n : ¬ B a) (h : ∀ x, B x → A x) (t : Top E A H a (.list ds)) : Rep E B H (.ref a) (.list ds) := by
  obtain ⟨xs, e, r⟩ := t
  exact .lst n e (r.weak h)
/-- a list, or a dict that is locked -/
def Lkd (H : Hp) (a : Addr) (H' : Hp) : D → Prop
  | .list _ => H' = H
  | .dict _ => ∃ o u, H a = some u ∧ Mut (some u) ∧ H' = upd H a (.frz o u)
  | _ => False
theorem Top.lock {a : Addr} {d : D} (n : ¬ B a) (h : ∀ x, B x → A x) (ha : A a) (t : Top E A H a d) (l : Lkd H a H' d) : Rep E B H' (.ref a) d := by
  cases d with
  | list ds => cases (show H' = H from l); exact t.rep n h
  | dict kvs =>
    obtain ⟨o, u, e, _, rfl⟩ := l
    have f : Fz A B H (upd H a (.frz o u)) := fun b v m e => ⟨fun z => m (h b z), by rw [upd_ne (fun z => m (by rw [z]; exact ha))]; exact e⟩
    rcases t with ⟨xs, e2, r⟩ | ⟨xs, e2, r, z⟩
    · rw [e] at e2; cases e2
      exact .dt n upd_same (r.fz f)
    · rw [e] at e2; cases e2
      exact .dk n upd_same (r.fz f) z
  | _ => exact t.elim
theorem TownOk.same {tn : Option (Addr × Addr)} {tw : Option (List Int × Int)} (k : ∀ a o, TownA tn a → H a = some o → H' a = some o) (t : TownOk tn H tw) : TownOk tn H' tw := by
  unfold TownOk at *
  split at t
  · trivial
  · obtain ⟨h1, h2, h3⟩ := t
    exact ⟨h1, k _ _ ⟨_, rfl, .inl rfl⟩ h2, k _ _ ⟨_, rfl, .inr rfl⟩ h3⟩
  · exact t
theorem TownOk.get {tl rl : Addr} {tw : Option (List Int × Int)} (t : TownOk (some (tl, rl)) H tw) : ∃ row n, tw = some (row, n) ∧ tl ≠ rl ∧ H tl = some (.lst [.ref rl, .int n]) ∧ H rl = some (.lst (row.map .int)) := by
  cases tw with
  | none => exact t.elim
  | some q => exact ⟨q.1, q.2, rfl, t⟩
theorem Rel.keeps (r : Rel E G W H σ s) (k : ∀ a o, H a = some o → H' a = some o) : Rel E G W H' σ s where
  len := r.len
  fr := fun a o h t => k a o (r.fr a o h t)
  val := fun i d h => let ⟨v, e, p⟩ := r.val i d h; ⟨v, e, p.fz (Fz.of_same k)⟩
  own := fun i d h => let ⟨a, e1, e2, p⟩ := r.own i d h; ⟨a, e1, e2, p.fz (Fz.of_same k) fun o => k a o⟩
  dom := r.dom
  inj := r.inj
  obj := fun a h => let ⟨o, e, z⟩ := r.obj a h; ⟨o, k a o e, z⟩
  tow := r.tow.same fun a o _ => k a o
  tnc := r.tnc
  rwc := r.rwc
  noc := r.noc
/-- a fresh address is not barred -/
theorem Rel.free (r : Rel E G W H σ s) {p : Addr} (h : H p = none) : ¬ Av G W p := by
  rintro (o | ⟨i, e⟩ | ⟨⟨tl, rl⟩, e, z⟩)
  · obtain ⟨o, e, _⟩ := r.obj p o; rw [h] at e; cases e
  · obtain ⟨_, _, _, d, hd⟩ := r.dom i p e
    obtain ⟨a, e1, _, t⟩ := r.own i d hd
    rw [e] at e1; cases e1
    obtain ⟨o, e2, _⟩ := t.there
    rw [h] at e2; cases e2
  · have t := r.tow
    rw [e] at t
    obtain ⟨row, n, _, _, h2, h3⟩ := t.get
    rcases z with rfl | rfl
    · rw [h] at h2; cases h2
    · rw [h] at h3; cases h3
theorem Rel.fresh0 (r : Rel E G W H σ s) {p : Addr} (h : H p = none) : G.H0 p = none := by
  cases e : G.H0 p with
  | none => rfl
  | some o =>
    rw [r.fr p o e fun t => r.free h (.inr (.inr t))] at h
    cases h
/-- fewer are barred -/
theorem Rel.unbar {p : Addr} (r : Rel E (G.bar p) W H σ s) : Rel E G W H σ s where
  len := r.len
  fr := r.fr
  val := fun i d h => let ⟨v, e, q⟩ := r.val i d h; ⟨v, e, q.weak fun a => fun
    | .inl z => .inl (.inl z)
    | .inr z => .inr z⟩
  own := fun i d h => let ⟨a, e1, e2, q⟩ := r.own i d h; ⟨a, e1, e2, q.fz (Fz.weak fun a => fun
    | .inl z => .inl (.inl z)
    | .inr z => .inr z) fun _ e => e⟩
  dom := fun i a h => let ⟨h1, h2, h3, h4⟩ := r.dom i a h; ⟨h1, h2, fun z => h3 (.inl z), h4⟩
  inj := r.inj
  obj := fun a h => r.obj a (.inl h)
  tow := r.tow
  tnc := r.tnc
  rwc := r.rwc
  noc := r.noc
/-- a new object at p, barred -/
theorem Rel.laid {p : Addr} {o : HO} (r : Rel E G W H σ s) (h : H p = none) (hnt : NT o := by exact fun _ z => nomatch z) : Rel E (G.bar p) W (upd H p o) σ s := by
  have k : ∀ a u, H a = some u → (upd H p o) a = some u := fun a u e => by rw [upd_ne (ne_of_none e h)]; exact e
  have f : Fz (Av G W) (Av (G.bar p) W) H (upd H p o) := fun a u n e => ⟨fun
    | .inl (.inl z) => n (.inl z)
    | .inl (.inr z) => by rw [z, h] at e; cases e
    | .inr z => n (.inr z), k a u e⟩
  exact {
    len := r.len
    fr := fun a u e t => k a u (r.fr a u e t)
    val := fun i d e => let ⟨v, e1, q⟩ := r.val i d e; ⟨v, e1, q.fz f⟩
    own := fun i d e => let ⟨a, e1, e2, q⟩ := r.own i d e; ⟨a, e1, e2, q.fz f fun u => k a u⟩
    dom := fun i a e => by
      obtain ⟨h1, h2, h3, h4⟩ := r.dom i a e
      refine ⟨h1, h2, ?_, h4⟩
      rintro (z | z)
      · exact h3 z
      · subst z; exact r.free h (.inr (.inl ⟨i, e⟩))
    inj := r.inj
    obj := fun a => fun
      | .inl z => let ⟨u, e, q⟩ := r.obj a z; ⟨u, k a u e, q⟩
      | .inr z => ⟨o, by rw [z]; exact upd_same, hnt⟩
    tow := r.tow.same fun a u _ => k a u
    tnc := r.tnc
    rwc := r.rwc
    noc := r.noc }
theorem Fz.laid {p : Addr} {o : HO} (h : H p = none) (G : Cfg) (W : Wt) : Fz (Av G W) (Av (G.bar p) W) H (upd H p o) := fun a u n e => ⟨fun
    | .inl (.inl z) => n (.inl z)
    | .inl (.inr z) => by rw [z, h] at e; cases e
    | .inr z => n (.inr z), by rw [upd_ne (ne_of_none e h)]; exact e⟩
theorem Fz.unbar {p : Addr} {H1 H2 : Hp} (f : Fz A (Av (G.bar p) W) H1 H2) : Fz A (Av G W) H1 H2 := fun a u n e => let ⟨h1, h2⟩ := f a u n e; ⟨fun
    | .inl z => h1 (.inl (.inl z))
    | .inr z => h1 (.inr z), h2⟩
end

/-! ### judgements: a function on states -/
abbrev Fe := S → Option (D × S)
def SndE (E : Ev) (t : TE) (f : Fe) : Prop := ∀ G W σ H s d s', Rel E G W H σ s → f s = some (d, s') → ∀ Q : VK,
  (∀ v H', Rel E G W H' σ s' → Fz (Av G W) (Av G W) H H' → Rep E (Av G W) H' v d → Q v H') → t σ H Q
/-- a new object -/
def SndF (E : Ev) (t : TE) (f : Fe) : Prop := ∀ G W σ H s d s', Rel E G W H σ s → f s = some (d, s') → ∀ Q : VK,
  (∀ p H', H p = none → Rel E (G.bar p) W H' σ s' → Fz (Av G W) (Av (G.bar p) W) H H' → Top E (Av (G.bar p) W) H' p d → Q (.ref p) H') → t σ H Q
def SndT (E : Ev) (t : TT) (f : Fe) : Prop := ∀ G W σ H s b s', Rel E G W H σ s → f s = some (.bool b, s') → ∀ Q : Bool → Hp → Prop,
  (∀ H', Rel E G W H' σ s' → Fz (Av G W) (Av G W) H H' → Q b H') → t σ H Q
abbrev Fa := S → Option (List D × S)
def SndA (E : Ev) (t : TA) (f : Fa) : Prop := ∀ G W σ H s d s', Rel E G W H σ s → f s = some (d, s') → ∀ Q : List V → Hp → Prop,
  (∀ v H', Rel E G W H' σ s' → Fz (Av G W) (Av G W) H H' → Reps E (Av G W) H' v d → Q v H') → t σ H Q

structure VE (X : Cx) (e : Expr) (f : Fe) : Prop where
  ex : ∃ t, PE X e t ∧ SndE (evX X) t f
structure VF (X : Cx) (e : Expr) (f : Fe) : Prop where
  ex : ∃ t, PE X e t ∧ SndF (evX X) t f
structure VT (X : Cx) (e : Expr) (f : Fe) : Prop where
  ex : ∃ t, PT X e t ∧ SndT (evX X) t f
structure VA (X : Cx) (es : List Expr) (f : Fa) : Prop where
  ex : ∃ t, PA X es t ∧ SndA (evX X) t f

section
variable {X : Cx} {e a b : Expr} {f g : Fe} {pos : Pos}
/-- a new dict is locked for good -/
def tLk (t : TE) : TE := fun σ H Q => t σ H fun v H1 => Q v H1 ∨ ∃ a u, v = .ref a ∧ H1 a = some u ∧ Mut (some u) ∧ ∀ o, Q v (upd H1 a (.frz o u))
theorem pe_lk {t : TE} (h : PE X e t) : PE X e (tLk t) := by
  refine ⟨fun pins s σ H Q I q => thn (h.run pins s σ H _ I q) fun v s1 ⟨x, H1, I1, r1, q1⟩ => ?_⟩
  rcases q1 with q1 | ⟨a, u, rfl, e1, mu, q1⟩
  · exact ⟨x, H1, I1, r1, q1⟩
  · obtain ⟨od, I2⟩ := I1.lock e1 mu
    exact ⟨_, _, I2, r1, q1 od⟩
theorem Rel.locked {E : Ev} {G : Cfg} {W : Wt} {H H' : Hp} {σ : St} {s : S} {p : Addr} {d : D} (R : Rel E (G.bar p) W H σ s) (h0 : G.H0 p = none) (hw : ∀ i, W.ow i ≠ some p) (hnt : ¬ TownA W.tn p) (l : Lkd H p H' d) : Rel E (G.bar p) W H' σ s := by
  cases d with
  | list ds => cases (show H' = H from l); exact R
  | dict kvs =>
    obtain ⟨o, u, e, mu, rfl⟩ := l
    have ha : Av (G.bar p) W p := .inl (.inr rfl)
    have f : Fz (Av (G.bar p) W) (Av (G.bar p) W) H (upd H p (.frz o u)) := fun b v m e => ⟨m, by rw [upd_ne (fun z => m (by rw [z]; exact ha))]; exact e⟩
    exact {
      len := R.len
      fr := fun a v e t => by rw [upd_ne fun z => by rw [z] at e; rw [show (G.bar p).H0 p = G.H0 p from rfl, h0] at e; cases e]; exact R.fr a v e t
      val := fun i d e => let ⟨v, e1, q⟩ := R.val i d e; ⟨v, e1, q.fz f⟩
      own := fun i d e => by
        obtain ⟨a, e1, e2, q⟩ := R.own i d e
        exact ⟨a, e1, e2, q.fz f fun v h => by rw [upd_ne fun z => hw i (by rw [← z]; exact e1)]; exact h⟩
      dom := R.dom
      inj := R.inj
      obj := fun a h => by
        by_cases z : a = p
        · rw [z]; exact ⟨_, upd_same, fun _ z => nomatch z⟩
        · rw [upd_ne z]; exact R.obj a h
      tow := R.tow.same fun a v h e => by rw [upd_ne fun z => hnt (by rw [← z]; exact h)]; exact e
      tnc := R.tnc
      rwc := R.rwc
      noc := R.noc }
  | _ => exact l.elim
theorem VF.ve (h : VF X e f) : VE X e f := by
  obtain ⟨t, p, sn⟩ := h.ex
  refine ⟨_, pe_lk p, fun G W σ H s d s' r hf Q hq => sn G W σ H s d s' r hf _ fun q H' hn r' fz tp => ?_⟩
  have fin : ∀ H2, Lkd H' q H2 d → Fz (Av (G.bar q) W) (Av (G.bar q) W) H' H2 → Q (.ref q) H2 := fun H2 l z => by
    refine hq _ H2 (r'.locked (r.fresh0 hn) (fun i e => (r'.dom i q e).2.2.1 (.inr rfl)) (fun z => r.free hn (.inr (.inr z))) l).unbar (fz.trans z).unbar (tp.lock (fun z => r.free hn z) (fun x z => ?_) (.inl (.inr rfl)) l)
    rcases z with z | z
    · exact .inl (.inl z)
    · exact .inr z
  obtain ⟨u, e1, _, mu⟩ := tp.there
  cases d with
  | list ds => exact .inl (fin H' rfl Fz.refl)
  | dict kvs => exact .inr ⟨q, u, rfl, e1, mu, fun o => fin _ ⟨o, u, e1, mu, rfl⟩ fun b v m e => ⟨m, by rw [upd_ne (fun z => m (by rw [z]; exact .inl (.inr rfl)))]; exact e⟩⟩
  | _ => exact tp.elim

/-! ### names and constants -/
def eVar (i : Nat) : Fe := fun s => match s.rho[i]? with
  | some (.val d) => some (d, s)
  | _ => none
theorem ve_pe {t : TE} (h : PE X e t) (sn : SndE (evX X) t f) : VE X e f := ⟨t, h, sn⟩
theorem snd_var {E : Ev} (i : Nat) : SndE E (tVar i) (eVar i) := by
  intro G W σ H s d s' r hf Q hq
  unfold eVar at hf
  split at hf
  · rename_i d' e
    cases hf
    obtain ⟨v, e1, q⟩ := r.val i d e
    exact ⟨v, e1, hq v H r Fz.refl q⟩
  · cases hf
theorem ve_var (i : Nat) {x : Str} (hN : X.N[i]? = some x := by rfl) (hv : Vis X.env.scope x := by first | exact Or.inl rfl | exact Or.inr (Or.inl rfl) | exact Or.inr (Or.inr rfl)) (hd : (x == ("__debug__" : Str)) = false := by decide)
    (hcd : (x == ("__classdict__" : Str)) = false := by decide) : VE X (.Name x pos) (eVar i) := ⟨_, pe_var hN hv hd hcd, snd_var i⟩
def eC (d : D) : Fe := fun s => some (d, s)
theorem snd_c {E : Ev} {v : V} {d : D} (h : ∀ A H, Rep E A H v d) : SndE E (tC v) (eC d) := by
  intro G W σ H s d' s' r hf Q hq
  cases hf
  exact hq v H r Fz.refl (h _ _)
theorem ve_int {i : Int} {j : Nat} : VE X (.Constant (.int i) j pos) (eC (.int i)) := ⟨_, pe_int, snd_c fun _ _ => .int i⟩
theorem ve_bl {b : Bool} {j : Nat} : VE X (.Constant (.bool b) j pos) (eC (.bool b)) := ⟨_, pe_bl, snd_c fun _ _ => .bl b⟩
theorem ve_non {j : Nat} : VE X (.Constant .none j pos) (eC .none) := ⟨_, pe_non, snd_c fun _ _ => .non⟩
theorem ve_str {x : Str} {j : Nat} : VE X (.Constant (.str x) j pos) (eC (.str x)) := ⟨_, pe_str, snd_c fun _ _ => .str x⟩
theorem ve_gint {x : Str} {i : Int} {t : Tok} (hg : Gl X x) (hm : X.mg x = some (.int i t)) (hd : (x == ("__debug__" : Str)) = false := by decide) : VE X (.Name x pos) (eC (.int i)) :=
  ⟨_, pe_glob (v := .int i) hg hm ⟨t, rfl⟩ hd, snd_c fun _ _ => .int i⟩

end
end Fx
-- Fx2
namespace Fx
open PySem PySem.Spec L2

/-! ### two operands -/
/-- nothing new is barred -/
def Fre (A : Addr → Prop) (H : Hp) : Prop := ∀ a, A a → ∃ o, H a = some o ∧ NT o
theorem Fre.no {A : Addr → Prop} {H : Hp} (f : Fre A H) {p : Addr} (h : H p = none) : ¬ A p := fun z => by
  obtain ⟨o, e, _⟩ := f p z
  rw [h] at e; cases e
theorem Fre.tup {A : Addr → Prop} {H : Hp} (f : Fre A H) {p : Addr} {xs : List V} (h : H p = some (.tup xs)) : ¬ A p := fun z => by
  obtain ⟨o, e, n⟩ := f p z
  rw [h] at e; cases e; exact n xs rfl
theorem Rel.fre {E : Ev} {G : Cfg} {W : Wt} {H : Hp} {σ : L2.St} {s : S} (r : Rel E G W H σ s) : Fre (Av G W) H := by
  rintro p (o | ⟨i, e⟩ | ⟨⟨tl, rl⟩, e, z⟩)
  · exact r.obj p o
  · obtain ⟨_, _, _, d, hd⟩ := r.dom i p e
    obtain ⟨a, e1, _, t⟩ := r.own i d hd
    rw [e] at e1; cases e1
    obtain ⟨o, e2, n, _⟩ := t.there
    exact ⟨o, e2, n⟩
  · have t := r.tow
    rw [e] at t
    obtain ⟨row, n, _, _, h2, h3⟩ := t.get
    rcases z with rfl | rfl
    · exact ⟨_, h2, fun _ z => nomatch z⟩
    · exact ⟨_, h3, fun _ z => nomatch z⟩
theorem Rel.same {E : Ev} {G : Cfg} {W : Wt} {H H' : Hp} {σ : L2.St} {s : S} (r : Rel E G W H σ s) (k : Same H H') : Rel E G W H' σ s := r.keeps k
/-- an operation on values as a function on data -/
def SndR (E : Ev) (r : R2) (g : D → D → Option D) : Prop := ∀ A H, Fre A H → ∀ x y dx dy dz, Rep E A H x dx → Rep E A H y dy → g dx dy = some dz → ∀ Q : VK,
  (∀ z H', Same H H' → Rep E A H' z dz → Q z H') → r x y H Q
/-- .. whose value is no object -/
def SndRS (E : Ev) (r : R2) (g : D → D → Option D) : Prop := ∀ A H x y dx dy dz, Rep E A H x dx → Rep E A H y dy → g dx dy = some dz → ∀ Q : VK,
  (∀ z, (∀ B H', Rep E B H' z dz) → Q z H) → r x y H Q
/-- .. whose value is a new list -/
def SndRF (E : Ev) (r : R2) (g : D → D → Option D) : Prop := ∀ A H x y dx dy dz, Rep E A H x dx → Rep E A H y dy → g dx dy = some dz → ∀ Q : VK,
  (∀ p xs ds, H p = none → dz = .list ds → Reps E A H xs ds → Q (.ref p) (upd H p (.lst xs))) → r x y H Q
theorem SndRS.r {E : Ev} {r : R2} {g : D → D → Option D} (h : SndRS E r g) : SndR E r g := fun A H _ x y dx dy dz rx ry e Q hq => h A H x y dx dy dz rx ry e Q fun z hz => hq z H (Same.refl H) (hz A H)

def eBin (g : D → D → Option D) (f1 f2 : Fe) : Fe := fun s => (f1 s).bind fun (x, s1) => (f2 s1).bind fun (y, s2) => (g x y).map fun z => (z, s2)
def eUn (g : D → Option D) (f1 : Fe) : Fe := fun s => (f1 s).bind fun (x, s1) => (g x).map fun z => (z, s1)
theorem eBin_some {g : D → D → Option D} {f1 f2 : Fe} {s s' : S} {d : D} (h : eBin g f1 f2 s = some (d, s')) : ∃ x s1 y, f1 s = some (x, s1) ∧ f2 s1 = some (y, s') ∧ g x y = some d := by
  unfold eBin at h
  simp only [Option.bind_eq_some_iff, Option.map_eq_some_iff] at h
  obtain ⟨⟨x, s1⟩, h1, ⟨y, s2⟩, h2, z, h3, h4⟩ := h
  cases h4
  exact ⟨x, s1, y, h1, h2, h3⟩
theorem eUn_some {g : D → Option D} {f1 : Fe} {s s' : S} {d : D} (h : eUn g f1 s = some (d, s')) : ∃ x, f1 s = some (x, s') ∧ g x = some d := by
  unfold eUn at h
  simp only [Option.bind_eq_some_iff, Option.map_eq_some_iff] at h
  obtain ⟨⟨x, s1⟩, h1, z, h3, h4⟩ := h
  cases h4
  exact ⟨x, h1, h3⟩
section
variable {E : Ev} {t ta tb tc : TE} {f f1 f2 f3 : Fe} {r r' : R2} {g g' : D → D → Option D}
theorem snd_op (ha : SndE E ta f1) (hb : SndE E tb f2) (hr : SndR E r g) : SndE E (tOp r ta tb) (eBin g f1 f2) := by
  intro G W σ H s d s' R hf Q hq
  obtain ⟨x, s1, y, h1, h2, h3⟩ := eBin_some hf
  refine ha G W σ H s x s1 R h1 _ fun v H1 R1 z1 p1 => ?_
  refine hb G W σ H1 s1 y s' R1 h2 _ fun u H2 R2 z2 p2 => ?_
  refine hr _ H2 R2.fre v u x y d (p1.fz z2) p2 h3 _ fun z H3 sm p3 => ?_
  exact hq z H3 (R2.same sm) ((z1.trans z2).trans (Fz.of_same sm)) p3
theorem Fz.laid' {G : Cfg} {W : Wt} {H1 H2 : Hp} {p : Addr} {o : HO} (z : Fz (Av G W) (Av G W) H1 H2) (h : H2 p = none) : Fz (Av G W) (Av (G.bar p) W) H1 (upd H2 p o) := z.trans (Fz.laid h G W)
theorem new_list {G : Cfg} {W : Wt} {H : Hp} {p : Addr} {xs : List V} {ds : List D} (h : H p = none) (rs : Reps E (Av G W) H xs ds) : Top E (Av (G.bar p) W) (upd H p (.lst xs)) p (.list ds) :=
  ⟨xs, upd_same, rs.fz (Fz.laid h G W)⟩
theorem none_back {G : Cfg} {W : Wt} {σ : L2.St} {s : S} {H H' : Hp} {p : Addr} (R : Rel E G W H σ s) (z : Fz (Av G W) (Av G W) H H') (R' : ∀ a, Av G W a → ∃ o, H' a = some o) (h : H' p = none) : H p = none := by
  cases e : H p with
  | none => rfl
  | some o =>
    by_cases q : Av G W p
    · obtain ⟨o', e'⟩ := R' p q
      rw [h] at e'; cases e'
    · have := (z p o q e).2
      rw [h] at this; cases this
theorem Rel.there {G : Cfg} {W : Wt} {σ : L2.St} {s : S} {H : Hp} (R : Rel E G W H σ s) : ∀ a, Av G W a → ∃ o, H a = some o := fun a h => by
  cases e : H a with
  | none => exact absurd h (R.free e)
  | some o => exact ⟨o, rfl⟩
theorem snd_opF (ha : SndE E ta f1) (hb : SndE E tb f2) (hr : SndRF E r g) : SndF E (tOp r ta tb) (eBin g f1 f2) := by
  intro G W σ H s d s' R hf Q hq
  obtain ⟨x, s1, y, h1, h2, h3⟩ := eBin_some hf
  refine ha G W σ H s x s1 R h1 _ fun v H1 R1 z1 p1 => ?_
  refine hb G W σ H1 s1 y s' R1 h2 _ fun u H2 R2 z2 p2 => ?_
  refine hr _ H2 v u x y d (p1.fz z2) p2 h3 _ fun p xs ds hn e rs => ?_
  subst e
  exact hq p _ (none_back R (z1.trans z2) R2.there hn) (R2.laid hn) ((z1.trans z2).laid' hn) (new_list hn rs)
theorem snd_test (h : SndE E t f) : SndT E (tTest t) f := by
  intro G W σ H s b s' R hf Q hq
  refine h G W σ H s _ s' R hf _ fun v H1 R1 z1 p1 => ?_
  cases p1
  exact ⟨b, rfl, hq H1 R1 z1⟩
theorem snd_tb (h : SndE E t f) : SndT E (tB t) f := by
  intro G W σ H s b s' R hf Q hq
  refine h G W σ H s _ s' R hf _ fun v H1 R1 z1 p1 => ?_
  cases p1
  exact ⟨b, rfl, hq H1 R1 z1⟩
end
section
variable {X : Cx} {a b c : Expr} {f f1 f2 f3 : Fe} {r r' : R2} {g g' : D → D → Option D} {pos : Pos}
theorem ve_op {op : Operator} (ho : OpR X (binaryOp op) r) (hr : SndR (evX X) r g) (ha : VE X a f1) (hb : VE X b f2) : VE X (.BinOp a op b pos) (eBin g f1 f2) := by
  obtain ⟨ta, pa, sa⟩ := ha.ex
  obtain ⟨tb, pb, sb⟩ := hb.ex
  exact ⟨_, pe_op ho pa pb, snd_op sa sb hr⟩
theorem vf_op {op : Operator} (ho : OpR X (binaryOp op) r) (hr : SndRF (evX X) r g) (ha : VE X a f1) (hb : VE X b f2) : VF X (.BinOp a op b pos) (eBin g f1 f2) := by
  obtain ⟨ta, pa, sa⟩ := ha.ex
  obtain ⟨tb, pb, sb⟩ := hb.ex
  exact ⟨_, pe_op ho pa pb, snd_opF sa sb hr⟩
theorem ve_cmp {op : CmpOp} (ho : OpR X (compareOp op) r) (hr : SndR (evX X) r g) (ha : VE X a f1) (hb : VE X b f2) (hm : behindInMarks op b = false := by first | exact nomark _ | rfl) : VE X (.Compare a [op] [b] pos) (eBin g f1 f2) := by
  obtain ⟨ta, pa, sa⟩ := ha.ex
  obtain ⟨tb, pb, sb⟩ := hb.ex
  exact ⟨_, pe_cmpR ho pa pb hm, snd_op sa sb hr⟩
theorem vt_cmp {op : CmpOp} (ho : OpR X (compareOp op) r) (hr : SndR (evX X) r g) (ha : VE X a f1) (hb : VE X b f2) (hm : behindInMarks op b = false := by first | exact nomark _ | rfl) : VT X (.Compare a [op] [b] pos) (eBin g f1 f2) := by
  obtain ⟨ta, pa, sa⟩ := ha.ex
  obtain ⟨tb, pb, sb⟩ := hb.ex
  exact ⟨_, pt_cmpR ho pa pb hm, snd_test (snd_op sa sb hr)⟩
theorem ve_un {op : UnaryOp} {r : V → Hp → VK → Prop} {g : D → Option D} (ho : UnR X (unaryOp op) r) (hr : ∀ A H x dx dz, Rep (evX X) A H x dx → g dx = some dz → ∀ Q : VK, (∀ z, (∀ B H', Rep (evX X) B H' z dz) → Q z H) → r x H Q) (ha : VE X a f1) :
    VE X (.UnaryOp op a pos) (eUn g f1) := by
  obtain ⟨ta, pa, sa⟩ := ha.ex
  refine ⟨_, pe_un ho pa, ?_⟩
  intro G W σ H s d s' R hf Q hq
  obtain ⟨x, h1, h3⟩ := eUn_some hf
  refine sa G W σ H s x s' R h1 _ fun v H1 R1 z1 p1 => ?_
  exact hr _ H1 v x d p1 h3 _ fun z hz => hq z H1 R1 z1 (hz _ _)
/-- a < b < c -/
def eChain (g g' : D → D → Option D) (f1 f2 f3 : Fe) : Fe := fun s => (f1 s).bind fun (x, s1) => (f2 s1).bind fun (y, s2) => (g x y).bind fun k => match k with
  | .bool true => (f3 s2).bind fun (z, s3) => (g' y z).map fun u => (u, s3)
  | .bool false => some (.bool false, s2)
  | _ => none
theorem eChain_some {g g' : D → D → Option D} {f1 f2 f3 : Fe} {s s' : S} {d : D} (h : eChain g g' f1 f2 f3 s = some (d, s')) : ∃ x s1 y s2, f1 s = some (x, s1) ∧ f2 s1 = some (y, s2) ∧
    ((g x y = some (.bool true) ∧ ∃ z, f3 s2 = some (z, s') ∧ g' y z = some d) ∨ (g x y = some (.bool false) ∧ d = .bool false ∧ s' = s2)) := by
  unfold eChain at h
  simp only [Option.bind_eq_some_iff] at h
  obtain ⟨⟨x, s1⟩, h1, ⟨y, s2⟩, h2, k, h3, h4⟩ := h
  refine ⟨x, s1, y, s2, h1, h2, ?_⟩
  dsimp only at h3 h4
  split at h4
  · simp only [Option.bind_eq_some_iff, Option.map_eq_some_iff] at h4
    obtain ⟨⟨z, s3⟩, h5, u, h6, h7⟩ := h4
    cases h7
    exact .inl ⟨h3, z, h5, h6⟩
  · cases h4
    exact .inr ⟨h3, rfl, rfl⟩
  · cases h4
theorem snd_chain {E : Ev} {ta tb tc : TE} (ha : SndE E ta f1) (hb : SndE E tb f2) (hc : SndE E tc f3) (hr : SndRS E r g) (hr' : SndRS E r' g') : SndE E (tChain r r' ta tb tc) (eChain g g' f1 f2 f3) := by
  intro G W σ H s d s' R hf Q hq
  obtain ⟨x, s1, y, s2, h1, h2, h3⟩ := eChain_some hf
  refine ha G W σ H s x s1 R h1 _ fun v H1 R1 z1 p1 => ?_
  refine hb G W σ H1 s1 y s2 R1 h2 _ fun u H2 R2 z2 p2 => ?_
  rcases h3 with ⟨h3, z, h4, h5⟩ | ⟨h3, rfl, rfl⟩
  · refine hr _ H2 v u x y _ (p1.fz z2) p2 h3 _ fun z' hz' => ?_
    have q := hz' (fun _ => False) H2
    cases q
    refine ⟨true, rfl, ?_⟩
    rw [if_pos rfl]
    refine hc G W σ H2 s2 z s' R2 h4 _ fun v3 H3 R3 z3 p3 => ?_
    exact hr' _ H3 u v3 y z d (p2.fz z3) p3 h5 _ fun z'' hz'' => hq z'' H3 R3 ((z1.trans z2).trans z3) (hz'' _ _)
  · refine hr _ H2 v u x y _ (p1.fz z2) p2 h3 _ fun z' hz' => ?_
    have q := hz' (fun _ => False) H2
    cases q
    refine ⟨false, rfl, ?_⟩
    rw [if_neg Bool.false_ne_true]
    exact hq _ H2 R2 (z1.trans z2) (.bl false)
theorem ve_chain {op op' : CmpOp} (ho : OpR X (compareOp op) r) (ho' : OpR X (compareOp op') r') (hr : SndRS (evX X) r g) (hr' : SndRS (evX X) r' g') (ha : VE X a f1) (hb : VE X b f2) (hc : VE X c f3) (hm : lastMarks [op, op'] [b, c] = false := by first | rfl | (first | decide | simp [lastMarks])) :
    VE X (.Compare a [op, op'] [b, c] pos) (eChain g g' f1 f2 f3) := by
  obtain ⟨ta, pa, sa⟩ := ha.ex
  obtain ⟨tb, pb, sb⟩ := hb.ex
  obtain ⟨tc, pc, sc⟩ := hc.ex
  exact ⟨_, pe_chain ho ho' pa pb pc hm, snd_chain sa sb sc hr hr'⟩
theorem vt_chain {op op' : CmpOp} (ho : OpR X (compareOp op) r) (ho' : OpR X (compareOp op') r') (hr : SndRS (evX X) r g) (hr' : SndRS (evX X) r' g') (ha : VE X a f1) (hb : VE X b f2) (hc : VE X c f3) (hm : lastMarks [op, op'] [b, c] = false := by first | rfl | (first | decide | simp [lastMarks])) :
    VT X (.Compare a [op, op'] [b, c] pos) (eChain g g' f1 f2 f3) := by
  obtain ⟨ta, pa, sa⟩ := ha.ex
  obtain ⟨tb, pb, sb⟩ := hb.ex
  obtain ⟨tc, pc, sc⟩ := hc.ex
  exact ⟨_, pt_chain ho ho' pa pb pc hm, snd_test (snd_chain sa sb sc hr hr')⟩
/-! ### and, or, not, if -/
def eAnd (f1 f2 : Fe) : Fe := fun s => (f1 s).bind fun (x, s1) => match x with
  | .bool true => f2 s1
  | .bool false => some (.bool false, s1)
  | _ => none
def eOr (f1 f2 : Fe) : Fe := fun s => (f1 s).bind fun (x, s1) => match x with
  | .bool true => some (.bool true, s1)
  | .bool false => f2 s1
  | _ => none
def notD : D → Option D
  | .bool b => some (.bool (!b))
  | _ => none
def eIf (c f1 f2 : Fe) : Fe := fun s => (c s).bind fun (x, s1) => match x with
  | .bool true => f1 s1
  | .bool false => f2 s1
  | _ => none
theorem eIf_some {s s' : S} {d : D} (h : eIf f f1 f2 s = some (d, s')) : ∃ s1, (f s = some (.bool true, s1) ∧ f1 s1 = some (d, s')) ∨ (f s = some (.bool false, s1) ∧ f2 s1 = some (d, s')) := by
  unfold eIf at h
  simp only [Option.bind_eq_some_iff] at h
  obtain ⟨⟨x, s1⟩, h1, h2⟩ := h
  refine ⟨s1, ?_⟩
  dsimp only at h2
  split at h2
  · exact .inl ⟨h1, h2⟩
  · exact .inr ⟨h1, h2⟩
  · cases h2
theorem eAnd_if : eAnd f1 f2 = eIf f1 f2 (eC (.bool false)) := rfl
theorem eOr_if : eOr f1 f2 = eIf f1 (eC (.bool true)) f2 := rfl
theorem ve_not (ha : VE X a f1) : VE X (.UnaryOp .Not a pos) (eUn notD f1) := by
  obtain ⟨ta, pa, sa⟩ := ha.ex
  refine ⟨_, pe_not pa, ?_⟩
  intro G W σ H s d s' R hf Q hq
  obtain ⟨x, h1, h3⟩ := eUn_some hf
  refine sa G W σ H s x s' R h1 _ fun v H1 R1 z1 p1 => ?_
  cases x <;> cases h3
  cases p1
  exact ⟨_, rfl, hq _ H1 R1 z1 (.bl _)⟩
theorem vt_not (ha : VT X a f1) : VT X (.UnaryOp .Not a pos) (eUn notD f1) := by
  obtain ⟨ta, pa, sa⟩ := ha.ex
  refine ⟨_, pt_not pa, ?_⟩
  intro G W σ H s d s' R hf Q hq
  obtain ⟨x, h1, h3⟩ := eUn_some hf
  cases x <;> cases h3
  exact sa G W σ H s _ s' R h1 _ fun H1 R1 z1 => hq H1 R1 z1
/-- the last of and, or -/
theorem ve_one {op : BoolOp} (h : VE X a f) : VE X (.BoolOp op [a] pos) f := by
  obtain ⟨t, p, sn⟩ := h.ex
  exact ⟨_, pe_one p, sn⟩
theorem ve_and {rest : List Expr} (ha : VE X a f1) (hb : VE X (.BoolOp .And (b :: rest) pos) f2) : VE X (.BoolOp .And (a :: b :: rest) pos) (eAnd f1 f2) := by
  obtain ⟨ta, pa, sa⟩ := ha.ex
  obtain ⟨tb, pb, sb⟩ := hb.ex
  refine ⟨_, pe_and pa pb, ?_⟩
  intro G W σ H s d s' R hf Q hq
  rw [eAnd_if] at hf
  obtain ⟨s1, ⟨h1, h2⟩ | ⟨h1, h2⟩⟩ := eIf_some hf
  · refine sa G W σ H s _ _ R h1 _ fun v H1 R1 z1 p1 => ?_
    cases p1
    refine ⟨true, rfl, ?_⟩
    rw [if_pos rfl]
    exact sb G W σ H1 s1 d s' R1 h2 _ fun v H2 R2 z2 p2 => hq v H2 R2 (z1.trans z2) p2
  · cases h2
    refine sa G W σ H s _ _ R h1 _ fun v H1 R1 z1 p1 => ?_
    cases p1
    refine ⟨false, rfl, ?_⟩
    rw [if_neg Bool.false_ne_true]
    exact hq _ H1 R1 z1 (.bl _)
theorem ve_or {rest : List Expr} (ha : VE X a f1) (hb : VE X (.BoolOp .Or (b :: rest) pos) f2) : VE X (.BoolOp .Or (a :: b :: rest) pos) (eOr f1 f2) := by
  obtain ⟨ta, pa, sa⟩ := ha.ex
  obtain ⟨tb, pb, sb⟩ := hb.ex
  refine ⟨_, pe_or pa pb, ?_⟩
  intro G W σ H s d s' R hf Q hq
  rw [eOr_if] at hf
  obtain ⟨s1, ⟨h1, h2⟩ | ⟨h1, h2⟩⟩ := eIf_some hf
  · cases h2
    refine sa G W σ H s _ _ R h1 _ fun v H1 R1 z1 p1 => ?_
    cases p1
    refine ⟨true, rfl, ?_⟩
    rw [if_pos rfl]
    exact hq _ H1 R1 z1 (.bl _)
  · refine sa G W σ H s _ _ R h1 _ fun v H1 R1 z1 p1 => ?_
    cases p1
    refine ⟨false, rfl, ?_⟩
    rw [if_neg Bool.false_ne_true]
    exact sb G W σ H1 s1 d s' R1 h2 _ fun v H2 R2 z2 p2 => hq v H2 R2 (z1.trans z2) p2
/-- tests of and, or -/
structure VW (X : Cx) (e : Expr) (f : Fe) : Prop where
  ex : ∃ t, PW X e t ∧ SndT (evX X) t f
theorem VW.vt (h : VW X a f) : VT X a f := by
  obtain ⟨t, p, sn⟩ := h.ex
  exact ⟨t, p.pt, sn⟩
theorem vw_and1 (h : VT X a f) : VW X (.BoolOp .And [a] pos) f := by
  obtain ⟨t, p, sn⟩ := h.ex
  exact ⟨_, pw_and1 p, sn⟩
theorem vw_or1 (h : VT X a f) : VW X (.BoolOp .Or [a] pos) f := by
  obtain ⟨t, p, sn⟩ := h.ex
  exact ⟨_, pw_or1 p, sn⟩
theorem vw_and {rest : List Expr} (ha : VT X a f1) (hb : VW X (.BoolOp .And (b :: rest) pos) f2) : VW X (.BoolOp .And (a :: b :: rest) pos) (eAnd f1 f2) := by
  obtain ⟨ta, pa, sa⟩ := ha.ex
  obtain ⟨tb, pb, sb⟩ := hb.ex
  refine ⟨_, pw_and pa pb, ?_⟩
  intro G W σ H s d s' R hf Q hq
  rw [eAnd_if] at hf
  obtain ⟨s1, ⟨h1, h2⟩ | ⟨h1, h2⟩⟩ := eIf_some hf
  · refine sa G W σ H s _ _ R h1 _ fun H1 R1 z1 => ?_
    rw [if_pos rfl]
    exact sb G W σ H1 s1 d s' R1 h2 _ fun H2 R2 z2 => hq H2 R2 (z1.trans z2)
  · cases h2
    refine sa G W σ H s _ _ R h1 _ fun H1 R1 z1 => ?_
    rw [if_neg Bool.false_ne_true]
    exact hq H1 R1 z1
theorem vw_or {rest : List Expr} (ha : VT X a f1) (hb : VW X (.BoolOp .Or (b :: rest) pos) f2) : VW X (.BoolOp .Or (a :: b :: rest) pos) (eOr f1 f2) := by
  obtain ⟨ta, pa, sa⟩ := ha.ex
  obtain ⟨tb, pb, sb⟩ := hb.ex
  refine ⟨_, pw_or pa pb, ?_⟩
  intro G W σ H s d s' R hf Q hq
  rw [eOr_if] at hf
  obtain ⟨s1, ⟨h1, h2⟩ | ⟨h1, h2⟩⟩ := eIf_some hf
  · cases h2
    refine sa G W σ H s _ _ R h1 _ fun H1 R1 z1 => ?_
    rw [if_pos rfl]
    exact hq H1 R1 z1
  · refine sa G W σ H s _ _ R h1 _ fun H1 R1 z1 => ?_
    rw [if_neg Bool.false_ne_true]
    exact sb G W σ H1 s1 d s' R1 h2 _ fun H2 R2 z2 => hq H2 R2 (z1.trans z2)
/-- a value that is True or False, as a test -/
theorem vt_val (h : VE X a f) (he : ∀ whole, isTrue a X.env whole = (do let v ← whole; standAt a.pos; holding [v] (truthy v)) := by intro _; rfl) : VT X a f := by
  obtain ⟨t, p, sn⟩ := h.ex
  exact ⟨_, pt_val p he, snd_tb sn⟩
theorem ve_if (hc : VT X c f) (ha : VE X a f1) (hb : VE X b f2) : VE X (.IfExp c a b pos) (eIf f f1 f2) := by
  obtain ⟨tc, pc, sc⟩ := hc.ex
  obtain ⟨ta, pa, sa⟩ := ha.ex
  obtain ⟨tb, pb, sb⟩ := hb.ex
  refine ⟨_, pe_ifExp pc pa pb, ?_⟩
  intro G W σ H s d s' R hf Q hq
  obtain ⟨s1, ⟨h1, h2⟩ | ⟨h1, h2⟩⟩ := eIf_some hf
  · refine sc G W σ H s _ s1 R h1 _ fun H1 R1 z1 => ?_
    rw [if_pos rfl]
    exact sa G W σ H1 s1 d s' R1 h2 _ fun v H2 R2 z2 p2 => hq v H2 R2 (z1.trans z2) p2
  · refine sc G W σ H s _ s1 R h1 _ fun H1 R1 z1 => ?_
    rw [if_neg Bool.false_ne_true]
    exact sb G W σ H1 s1 d s' R1 h2 _ fun v H2 R2 z2 p2 => hq v H2 R2 (z1.trans z2) p2
/-! ### rows of arguments -/
def aNil : Fa := fun s => some ([], s)
def aCons (f : Fe) (g : Fa) : Fa := fun s => (f s).bind fun (x, s1) => (g s1).map fun (xs, s2) => (x :: xs, s2)
theorem va_nil : VA X [] aNil := ⟨_, pa_nil, fun G W σ H s d s' R hf Q hq => by cases hf; exact hq [] H R Fz.refl .nil⟩
theorem va_cons {es : List Expr} {fa : Fa} (h : VE X a f) (hr : VA X es fa) (hs : starEach (a :: es) X.env = (false, eval a X.env) :: starEach es X.env := by rfl) : VA X (a :: es) (aCons f fa) := by
  obtain ⟨t, p, sn⟩ := h.ex
  obtain ⟨tr, pr, sr⟩ := hr.ex
  refine ⟨_, pa_cons p pr hs, ?_⟩
  intro G W σ H s d s' R hf Q hq
  unfold aCons at hf
  simp only [Option.bind_eq_some_iff, Option.map_eq_some_iff] at hf
  obtain ⟨⟨x, s1⟩, h1, ⟨xs, s2⟩, h2, h3⟩ := hf
  cases h3
  refine sn G W σ H s x s1 R h1 _ fun v H1 R1 z1 p1 => ?_
  exact sr G W σ H1 s1 xs _ R1 h2 _ fun vs H2 R2 z2 p2 => hq _ H2 R2 (z1.trans z2) (.cons (p1.fz z2) p2)
/-! ### tuples and lists -/
def eTup (fa : Fa) : Fe := fun s => (fa s).bind fun (xs, s1) => if xs.length ≤ 100000 then some (.tuple xs, s1) else none
def eLst (fa : Fa) : Fe := fun s => (fa s).bind fun (xs, s1) => if xs.length ≤ 100000 then some (.list xs, s1) else none
theorem line_of {n : Nat} (h : n ≤ 100000) : n ≤ sizeLine := Nat.le_trans h (by decide)
theorem ve_tup {es : List Expr} {fa : Fa} {k : Nat} (h : VA X es fa) : VE X (.Tuple es k pos) (eTup fa) := by
  obtain ⟨t, p, sn⟩ := h.ex
  refine ⟨_, pe_tup p, ?_⟩
  intro G W σ H s d s' R hf Q hq
  unfold eTup at hf
  simp only [Option.bind_eq_some_iff] at hf
  obtain ⟨⟨xs, s1⟩, h1, h2⟩ := hf
  dsimp only at h2
  split at h2
  · rename_i hl
    cases h2
    refine sn G W σ H s xs _ R h1 _ fun vs H1 R1 z1 p1 => ⟨line_of (by rw [p1.length]; exact hl), fun q hn => ?_⟩
    have k : Same H1 (upd H1 q (.tup vs)) := fun b o e => by rw [upd_ne (ne_of_none e hn)]; exact e
    exact hq _ _ (R1.same k) (z1.trans (Fz.of_same k)) (.tup (.inl ⟨R1.free hn, upd_same⟩) (p1.fz (Fz.of_same k)))
  · cases h2
theorem vf_lst {es : List Expr} {fa : Fa} (h : VA X es fa) : VF X (.List es pos) (eLst fa) := by
  obtain ⟨t, p, sn⟩ := h.ex
  refine ⟨_, pe_lst p, ?_⟩
  intro G W σ H s d s' R hf Q hq
  unfold eLst at hf
  simp only [Option.bind_eq_some_iff] at hf
  obtain ⟨⟨xs, s1⟩, h1, h2⟩ := hf
  dsimp only at h2
  split at h2
  · rename_i hl
    cases h2
    refine sn G W σ H s xs _ R h1 _ fun vs H1 R1 z1 p1 => ⟨line_of (by rw [p1.length]; exact hl), fun q hn => ?_⟩
    exact hq q _ (none_back R z1 R1.there hn) (R1.laid hn) (z1.laid' hn) (new_list hn p1)
  · cases h2
end
end Fx
-- Fx3
namespace Fx
open PySem PySem.Spec L2

section
variable {E : Ev} {A : Addr → Prop} {H : Hp}
mutual
theorem Rep.dp : ∀ {v : V} {d : D}, Rep E A H v d → d.canLay0 = true → Dp E.K H v d
  | _, _, .non, _ => .non
  | _, _, .bl b, _ => .bl b
  | _, _, .int i, _ => .int i
  | _, _, .str x, _ => .str x
  | _, _, .tup e r, h => .tup e.sqt (Reps.dp r (by simpa [PyData.canLay0] using h))
  | _, _, .lst _ e r, h => .lst (SqL.of e) (Reps.dp r (by simpa [PyData.canLay0] using h))
  | _, _, .dt .., h => by simp [PyData.canLay0] at h
  | _, _, .dk .., h => by simp [PyData.canLay0] at h
theorem Reps.dp : ∀ {v : List V} {d : List D}, Reps E A H v d → PyData.canLayAll0 d = true → DpAll E.K H v d
  | _, _, .nil, _ => .nil
  | _, _, .cons r t, h => by
    simp only [PyData.canLayAll0, Bool.and_eq_true] at h
    exact .cons (Rep.dp r h.1) (Reps.dp t h.2)
end
theorem shaped_lay {d : D} (h : SeqAt.shaped d = true) : d.canLay0 = true := by
  unfold SeqAt.shaped at h
  simp only [Bool.and_eq_true] at h
  exact h.1
end

/-! ### numbers -/
def intD (g : Int → Int → Option D) : D → D → Option D
  | .int a, .int b => g a b
  | _, _ => none
section
variable {E : Ev}
theorem sr_I0 {h : Int → Int → V} {g : Int → Int → Option D} (e : ∀ i j d, g i j = some d → ∀ A H, Rep E A H (h i j) d) : SndRS E (rI0 h) (intD g) := by
  intro A H x y dx dy dz rx ry he Q hq
  cases rx <;> cases ry <;> simp only [intD] at he
  all_goals first | (cases he; done) | skip
  exact ⟨_, _, rfl, rfl, hq _ fun B H' => e _ _ _ he B H'⟩
theorem sr_I {C : Int → Int → Prop} {h : Int → Int → V} {g : Int → Int → Option D} (e : ∀ i j d, g i j = some d → C i j ∧ ∀ A H, Rep E A H (h i j) d) : SndRS E (rI C h) (intD g) := by
  intro A H x y dx dy dz rx ry he Q hq
  cases rx <;> cases ry <;> simp only [intD] at he
  all_goals first | (cases he; done) | skip
  obtain ⟨hc, hr⟩ := e _ _ _ he
  exact ⟨_, _, rfl, rfl, hc, hq _ fun B H' => hr B H'⟩
def subD : D → D → Option D := intD fun a b => some (.int (a - b))
def mulD : D → D → Option D := intD fun a b => if (-(2 ^ 64) < a ∧ a < 2 ^ 64) ∨ (-(2 ^ 64) < b ∧ b < 2 ^ 64) then some (.int (a * b)) else none
def divD : D → D → Option D := intD fun a b => if 0 < b ∧ b < 1073741824 then some (.int (a / b)) else none
def modD : D → D → Option D := intD fun a b => if 0 < b then some (.int (a % b)) else none
def powD : D → D → Option D := intD fun a b => if 0 ≤ b ∧ b ≤ 1000000 ∧ a.natAbs < 2 ^ 64 then some (.int (a ^ b.toNat)) else none
def ltD : D → D → Option D := intD fun a b => some (.bool (decide (a < b)))
def leD : D → D → Option D := intD fun a b => some (.bool (decide (a ≤ b)))
def gtD : D → D → Option D := intD fun a b => some (.bool (decide (b < a)))
def geD : D → D → Option D := intD fun a b => some (.bool (decide (b ≤ a)))
theorem sr_sub : SndRS E (rI0 fun i j => .int (i - j)) subD := sr_I0 fun i j d e A H => by cases e; exact .int _
theorem sr_lt : SndRS E (rI0 fun i j => .bl (decide (i < j))) ltD := sr_I0 fun i j d e A H => by cases e; exact .bl _
theorem sr_le : SndRS E (rI0 fun i j => .bl (decide (i ≤ j))) leD := sr_I0 fun i j d e A H => by cases e; exact .bl _
theorem sr_gt : SndRS E (rI0 fun i j => .bl (decide (j < i))) gtD := sr_I0 fun i j d e A H => by cases e; exact .bl _
theorem sr_ge : SndRS E (rI0 fun i j => .bl (decide (j ≤ i))) geD := sr_I0 fun i j d e A H => by cases e; exact .bl _
theorem sr_mul : SndRS E (rI CMul fun i j => .int (i * j)) mulD := sr_I fun i j d e => by
  split at e
  · rename_i h; cases e; exact ⟨h, fun _ _ => .int _⟩
  · cases e
theorem sr_div : SndRS E (rI CDiv fun i j => .int (i / j)) divD := sr_I fun i j d e => by
  split at e
  · rename_i h; cases e; exact ⟨h, fun _ _ => .int _⟩
  · cases e
theorem sr_mod : SndRS E (rI (fun _ j => 0 < j) fun i j => .int (i % j)) modD := sr_I fun i j d e => by
  split at e
  · rename_i h; cases e; exact ⟨h, fun _ _ => .int _⟩
  · cases e
theorem sr_pow : SndRS E (rI CPow fun i j => .int (i ^ j.toNat)) powD := sr_I fun i j d e => by
  split at e
  · rename_i h; cases e; exact ⟨h, fun _ _ => .int _⟩
  · cases e
def negD : D → Option D
  | .int a => some (.int (-a))
  | _ => none
end
section
variable {X : Cx} {a b c : Expr} {f f1 f2 f3 : Fe} {pos : Pos}
theorem ve_sub (ha : VE X a f1) (hb : VE X b f2) : VE X (.BinOp a .Sub b pos) (eBin subD f1 f2) := ve_op op_sub sr_sub.r ha hb
theorem ve_mul (ha : VE X a f1) (hb : VE X b f2) : VE X (.BinOp a .Mult b pos) (eBin mulD f1 f2) := ve_op op_mul sr_mul.r ha hb
theorem ve_div (ha : VE X a f1) (hb : VE X b f2) : VE X (.BinOp a .FloorDiv b pos) (eBin divD f1 f2) := ve_op op_fdiv sr_div.r ha hb
theorem ve_mod (ha : VE X a f1) (hb : VE X b f2) : VE X (.BinOp a .Mod b pos) (eBin modD f1 f2) := ve_op op_mod sr_mod.r ha hb
theorem ve_pow (ha : VE X a f1) (hb : VE X b f2) : VE X (.BinOp a .Pow b pos) (eBin powD f1 f2) := ve_op op_pow sr_pow.r ha hb
theorem ve_lt (ha : VE X a f1) (hb : VE X b f2) : VE X (.Compare a [.Lt] [b] pos) (eBin ltD f1 f2) := ve_cmp op_lt sr_lt.r ha hb
theorem ve_le (ha : VE X a f1) (hb : VE X b f2) : VE X (.Compare a [.LtE] [b] pos) (eBin leD f1 f2) := ve_cmp op_le sr_le.r ha hb
theorem ve_gt (ha : VE X a f1) (hb : VE X b f2) : VE X (.Compare a [.Gt] [b] pos) (eBin gtD f1 f2) := ve_cmp op_gt sr_gt.r ha hb
theorem ve_ge (ha : VE X a f1) (hb : VE X b f2) : VE X (.Compare a [.GtE] [b] pos) (eBin geD f1 f2) := ve_cmp op_ge sr_ge.r ha hb
theorem vt_lt (ha : VE X a f1) (hb : VE X b f2) : VT X (.Compare a [.Lt] [b] pos) (eBin ltD f1 f2) := vt_cmp op_lt sr_lt.r ha hb
theorem vt_le (ha : VE X a f1) (hb : VE X b f2) : VT X (.Compare a [.LtE] [b] pos) (eBin leD f1 f2) := vt_cmp op_le sr_le.r ha hb
theorem vt_gt (ha : VE X a f1) (hb : VE X b f2) : VT X (.Compare a [.Gt] [b] pos) (eBin gtD f1 f2) := vt_cmp op_gt sr_gt.r ha hb
theorem vt_ge (ha : VE X a f1) (hb : VE X b f2) : VT X (.Compare a [.GtE] [b] pos) (eBin geD f1 f2) := vt_cmp op_ge sr_ge.r ha hb
theorem ve_neg (ha : VE X a f1) : VE X (.UnaryOp .USub a pos) (eUn negD f1) := ve_un un_neg (fun A H x dx dz rx e Q hq => by
  cases rx <;> cases e
  exact ⟨_, rfl, hq _ fun _ _ => .int _⟩) ha
end

/-! ### + of numbers, tuples, texts, lists -/
def addD : D → D → Option D
  | .int a, .int b => some (.int (a + b))
  | .tuple xs, .tuple ys => if xs.length + ys.length ≤ 100000 then some (.tuple (xs ++ ys)) else none
  | .str x, .str y => if x.length + y.length ≤ 100000 then some (.str (x ++ y)) else none
  | _, _ => none
def catD : D → D → Option D
  | .list xs, .list ys => if xs.length + ys.length ≤ 100000 then some (.list (xs ++ ys)) else none
  | _, _ => none
section
variable {X : Cx} {a b c : Expr} {f f1 f2 f3 : Fe} {pos : Pos}
theorem same_new {H : Hp} {p : Addr} {o : HO} (h : H p = none) : Same H (upd H p o) := fun b x e => by rw [upd_ne (ne_of_none e h)]; exact e
theorem ve_add (ha : VE X a f1) (hb : VE X b f2) : VE X (.BinOp a .Add b pos) (eBin addD f1 f2) := by
  refine ve_op ((op_add.or op_catA).or op_add_str) ?_ ha hb
  intro A H fre x y dx dy dz rx ry e Q hq
  cases rx <;> cases ry <;> simp only [addD] at e
  all_goals first | (cases e; done) | skip
  · cases e
    exact .inl (.inl ⟨_, _, rfl, rfl, hq _ H (Same.refl H) (.int _)⟩)
  · split at e
    · rename_i hl
      cases e
      exact .inr ⟨_, _, rfl, rfl, line_of hl, hq _ H (Same.refl H) (.str _)⟩
    · cases e
  · rename_i p xs ds e1 r1 q ys es e2 r2
    split at e
    · rename_i hl
      cases e
      refine .inl (.inr ⟨p, q, xs, ys, rfl, rfl, e1.sqt, e2.sqt, line_of (by rw [r1.length, r2.length]; exact hl), fun h => ?_, fun h h' => ?_, fun h h' p' hn => ?_⟩)
      · subst h
        cases r1
        exact hq _ H (Same.refl H) (.tup e2 r2)
      · subst h'
        cases r2
        exact hq _ H (Same.refl H) (by rw [List.append_nil]; exact .tup e1 r1)
      · exact hq _ _ (same_new hn) (.tup (.inl ⟨fre.no hn, upd_same⟩) ((r1.append r2).fz (Fz.of_same (same_new hn))))
    · cases e
theorem vf_cat (ha : VE X a f1) (hb : VE X b f2) : VF X (.BinOp a .Add b pos) (eBin catD f1 f2) := by
  refine vf_op op_cat ?_ ha hb
  intro A H x y dx dy dz rx ry e Q hq
  cases rx <;> cases ry <;> simp only [catD] at e
  all_goals first | (cases e; done) | skip
  rename_i p xs ds n1 e1 r1 q ys es n2 e2 r2
  split at e
  · rename_i hl
    cases e
    exact ⟨p, q, xs, ys, rfl, rfl, e1, e2, line_of (by rw [r1.length, r2.length]; exact hl), fun p' hn => hq p' _ _ hn rfl (r1.append r2)⟩
  · cases e
/-- xs * k of a list, a tuple -/
def repD : D → D → Option D
  | .list xs, .int k => if 0 ≤ k ∧ k ≤ 1000 ∧ xs.length ≤ 1000 then some (.list (List.replicate k.toNat xs).flatten) else none
  | _, _ => none
def repT : D → D → Option D
  | .tuple xs, .int k => if xs ≠ [] ∧ 2 ≤ k ∧ k ≤ 1000 ∧ xs.length ≤ 1000 then some (.tuple (List.replicate k.toNat xs).flatten) else none
  | _, _ => none
theorem Reps.rep {E : Ev} {A : Addr → Prop} {H : Hp} {xs : List V} {ds : List D} (r : Reps E A H xs ds) : ∀ k : Nat, Reps E A H (List.replicate k xs).flatten (List.replicate k ds).flatten
  | 0 => .nil
  | k + 1 => by
    rw [List.replicate_succ, List.replicate_succ, List.flatten_cons, List.flatten_cons]
    exact r.append (Reps.rep r k)
theorem vf_rep (ha : VE X a f1) (hb : VE X b f2) : VF X (.BinOp a .Mult b pos) (eBin repD f1 f2) := by
  refine vf_op op_rep ?_ ha hb
  intro A H x y dx dy dz rx ry e Q hq
  cases rx <;> cases ry <;> simp only [repD] at e
  all_goals first | (cases e; done) | skip
  rename_i p xs ds n1 e1 r1 k
  split at e
  · rename_i hl
    cases e
    refine ⟨p, k, xs, rfl, rfl, e1, by omega, by omega, ?_, fun p' hn => hq p' _ _ hn rfl (r1.rep _)⟩
    have h1 : xs.length ≤ 1000 := by rw [r1.length]; exact hl.2.2
    have h2 : k.toNat ≤ 1000 := by omega
    exact Nat.le_trans (Nat.mul_le_mul h1 h2) (by decide)
  · cases e
theorem ve_repT (ha : VE X a f1) (hb : VE X b f2) : VE X (.BinOp a .Mult b pos) (eBin repT f1 f2) := by
  refine ve_op op_repT ?_ ha hb
  intro A H fre x y dx dy dz rx ry e Q hq
  cases rx <;> cases ry <;> simp only [repT] at e
  all_goals first | (cases e; done) | skip
  rename_i p xs ds e1 r1 k
  split at e
  · rename_i hl
    cases e
    refine ⟨p, k, xs, rfl, rfl, e1.sqt, ?_, hl.2.1, hl.2.2.1, ?_, fun p' hn => hq _ _ (same_new hn) (.tup (.inl ⟨fre.no hn, upd_same⟩) ((r1.rep _).fz (Fz.of_same (same_new hn))))⟩
    · intro z
      subst z
      cases r1
      exact hl.1 rfl
    · rw [r1.length]; exact hl.2.2.2
  · cases e
/-! ### == and its kin -/
def eqD (d e : D) : Option D := if SeqAt.shaped d = true ∧ SeqAt.shaped e = true then some (.bool (PyData.eqv d e)) else none
def neD (d e : D) : Option D := if SeqAt.shaped d = true ∧ SeqAt.shaped e = true then some (.bool (!PyData.eqv d e)) else none
theorem sr_eq {E : Ev} : SndRS E (rEqD E.K) eqD := by
  intro A H x y dx dy dz rx ry e Q hq
  unfold eqD at e
  split at e
  · rename_i h
    cases e
    exact ⟨dx, dy, rx.dp (shaped_lay h.1), ry.dp (shaped_lay h.2), h.1, h.2, hq _ fun _ _ => .bl _⟩
  · cases e
theorem sr_ne {E : Ev} : SndRS E (rNeD E.K) neD := by
  intro A H x y dx dy dz rx ry e Q hq
  unfold neD at e
  split at e
  · rename_i h
    cases e
    exact ⟨dx, dy, rx.dp (shaped_lay h.1), ry.dp (shaped_lay h.2), h.1, h.2, hq _ fun _ _ => .bl _⟩
  · cases e
theorem ve_eq (hu : X.A.units + 64 < cLine) (ha : VE X a f1) (hb : VE X b f2) : VE X (.Compare a [.Eq] [b] pos) (eBin eqD f1 f2) := ve_cmp (op_eqD hu) sr_eq.r ha hb
theorem ve_ne (hu : X.A.units + 64 < cLine) (ha : VE X a f1) (hb : VE X b f2) : VE X (.Compare a [.NotEq] [b] pos) (eBin neD f1 f2) := ve_cmp (op_neD hu) sr_ne.r ha hb
theorem vt_eq (hu : X.A.units + 64 < cLine) (ha : VE X a f1) (hb : VE X b f2) : VT X (.Compare a [.Eq] [b] pos) (eBin eqD f1 f2) := vt_cmp (op_eqD hu) sr_eq.r ha hb
theorem vt_ne (hu : X.A.units + 64 < cLine) (ha : VE X a f1) (hb : VE X b f2) : VT X (.Compare a [.NotEq] [b] pos) (eBin neD f1 f2) := vt_cmp (op_neD hu) sr_ne.r ha hb
/-- is None, is not None; is True, is not True .. -/
def isND : D → D → Option D
  | d, .none => some (.bool (match d with | .none => true | _ => false))
  | .bool a, .bool b => some (.bool (decide (a = b)))
  | _, _ => none
def isntD : D → D → Option D
  | d, .none => some (.bool (match d with | .none => false | _ => true))
  | .bool a, .bool b => some (.bool (!decide (a = b)))
  | _, _ => none
theorem sr_is {E : Ev} : SndRS E (fun x y H Q => (y = .non ∧ Q (.bl (decide (x = .non))) H) ∨ rIsB x y H Q) isND := by
  intro A H x y dx dy dz rx ry e Q hq
  cases ry with
  | non =>
    refine .inl ⟨rfl, ?_⟩
    cases rx <;> simp only [isND] at e <;> cases e <;> exact hq _ fun _ _ => .bl _
  | bl b =>
    cases rx <;> simp only [isND] at e
    all_goals first | (cases e; done) | skip
    cases e
    exact .inr ⟨_, _, rfl, rfl, hq _ fun _ _ => .bl _⟩
  | _ => cases rx <;> simp [isND] at e
theorem sr_isnt {E : Ev} : SndRS E (fun x y H Q => (y = .non ∧ Q (.bl (!decide (x = .non))) H) ∨ rNotB x y H Q) isntD := by
  intro A H x y dx dy dz rx ry e Q hq
  cases ry with
  | non =>
    refine .inl ⟨rfl, ?_⟩
    cases rx <;> simp only [isntD] at e <;> cases e <;> exact hq _ fun _ _ => .bl _
  | bl b =>
    cases rx <;> simp only [isntD] at e
    all_goals first | (cases e; done) | skip
    cases e
    exact .inr ⟨_, _, rfl, rfl, hq _ fun _ _ => .bl _⟩
  | _ => cases rx <;> simp [isntD] at e
theorem ve_is (ha : VE X a f1) (hb : VE X b f2) : VE X (.Compare a [.Is] [b] pos) (eBin isND f1 f2) := ve_cmp (op_isN.or op_isBl) sr_is.r ha hb
theorem ve_isnt (ha : VE X a f1) (hb : VE X b f2) : VE X (.Compare a [.IsNot] [b] pos) (eBin isntD f1 f2) := ve_cmp (op_notN.or op_notBl) sr_isnt.r ha hb
theorem vt_is (ha : VE X a f1) (hb : VE X b f2) : VT X (.Compare a [.Is] [b] pos) (eBin isND f1 f2) := vt_cmp (op_isN.or op_isBl) sr_is.r ha hb
theorem vt_isnt (ha : VE X a f1) (hb : VE X b f2) : VT X (.Compare a [.IsNot] [b] pos) (eBin isntD f1 f2) := vt_cmp (op_notN.or op_notBl) sr_isnt.r ha hb
/-! ### xs[i] -/
def ixD : D → D → Option D
  | .list xs, .int i => atI xs i
  | .tuple xs, .int i => atI xs i
  | .str z, .int i => if z.length ≤ 100000 then (atI z.cps.toList i).map fun c => .str ⟨#[c]⟩ else none
  | _, _ => none
theorem Reps.atI {E : Ev} {A : Addr → Prop} {H : Hp} {xs : List V} {ds : List D} {i : Int} {d : D} (r : Reps E A H xs ds) (h : L2.atI ds i = some d) : ∃ v, L2.atI xs i = some v ∧ Rep E A H v d := by
  unfold L2.atI at h ⊢
  rw [r.length]
  cases e : ixN ds.length i with
  | none => rw [e] at h; cases h
  | some j => rw [e] at h; exact r.get h
theorem sr_ix {E : Ev} : SndR E (rIx E.K) ixD := by
  intro A H fre x y dx dy dz rx ry e Q hq
  cases rx <;> cases ry <;> simp only [ixD] at e
  all_goals first | (cases e; done) | skip
  · split at e
    · rename_i hl
      simp only [Option.map_eq_some_iff] at e
      obtain ⟨c, e1, rfl⟩ := e
      exact .inr (.inr ⟨_, _, c, rfl, rfl, line_of hl, e1, hq _ H (Same.refl H) (.str _)⟩)
    · cases e
  · rename_i p xs ds e1 r1 k
    obtain ⟨v, h1, h2⟩ := r1.atI e
    exact .inr (.inl ⟨p, xs, k, v, rfl, rfl, e1.sqt, h1, hq v H (Same.refl H) h2⟩)
  · rename_i p xs ds n1 e1 r1 k
    obtain ⟨v, h1, h2⟩ := r1.atI e
    exact .inl ⟨p, xs, k, v, rfl, rfl, SqL.of e1, h1, hq v H (Same.refl H) h2⟩
theorem ve_ix (ha : VE X a f1) (hb : VE X b f2) (hs : PlainIx b := by exact fun _ _ => rfl) : VE X (.Subscript a b pos) (eBin ixD f1 f2) := by
  obtain ⟨ta, pa, sa⟩ := ha.ex
  obtain ⟨tb, pb, sb⟩ := hb.ex
  exact ⟨_, pe_ix ix_seq pa pb hs, snd_op sa sb sr_ix⟩
end
end Fx
-- Fx4
namespace Fx
open PySem PySem.Spec L2

/-! ### calls of built-ins -/
/-- no star among the arguments -/
structure NS (X : Cx) (e : Expr) (es : List Expr) (pos : Pos) : Prop where
  he : starEach (e :: es) X.env = (false, eval e X.env) :: starEach es X.env
  hpl : ((backTo pos (starEach es X.env)).any (·.1)) = false
def SndC (E : Ev) (r : List V → Hp → VK → Prop) (g : List D → Option D) : Prop := ∀ A H, Fre A H → ∀ xs ds d, Reps E A H xs ds → g ds = some d → ∀ Q : VK,
  (∀ z H', Same H H' → Rep E A H' z d → Q z H') → r xs H Q
def SndCS (E : Ev) (r : List V → Hp → VK → Prop) (g : List D → Option D) : Prop := ∀ A H xs ds d, Reps E A H xs ds → g ds = some d → ∀ Q : VK,
  (∀ z, (∀ B H', Rep E B H' z d) → Q z H) → r xs H Q
def SndCF (E : Ev) (r : List V → Hp → VK → Prop) (g : List D → Option D) : Prop := ∀ A H xs ds d, Reps E A H xs ds → g ds = some d → ∀ Q : VK,
  (∀ p ys es, H p = none → d = .list es → Reps E A H ys es → Q (.ref p) (upd H p (.lst ys))) → r xs H Q
theorem SndCS.c {E : Ev} {r : List V → Hp → VK → Prop} {g : List D → Option D} (h : SndCS E r g) : SndC E r g := fun A H _ xs ds d rx e Q hq => h A H xs ds d rx e Q fun z hz => hq z H (Same.refl H) (hz A H)
def eCall (g : List D → Option D) (fa : Fa) : Fe := fun s => (fa s).bind fun (xs, s1) => (g xs).map fun z => (z, s1)
theorem eCall_some {g : List D → Option D} {fa : Fa} {s s' : S} {d : D} (h : eCall g fa s = some (d, s')) : ∃ xs, fa s = some (xs, s') ∧ g xs = some d := by
  unfold eCall at h
  simp only [Option.bind_eq_some_iff, Option.map_eq_some_iff] at h
  obtain ⟨⟨x, s1⟩, h1, z, h3, h4⟩ := h
  cases h4
  exact ⟨x, h1, h3⟩
section
variable {E : Ev} {ta : TA} {fa : Fa} {r : List V → Hp → VK → Prop} {g : List D → Option D}
theorem snd_cb (ha : SndA E ta fa) (hr : SndC E r g) : SndE E (tCB r ta) (eCall g fa) := by
  intro G W σ H s d s' R hf Q hq
  obtain ⟨xs, h1, h2⟩ := eCall_some hf
  refine ha G W σ H s xs s' R h1 _ fun vs H1 R1 z1 p1 => ?_
  exact hr _ H1 R1.fre vs xs d p1 h2 _ fun z H2 sm p2 => hq z H2 (R1.same sm) (z1.trans (Fz.of_same sm)) p2
theorem snd_cbF (ha : SndA E ta fa) (hr : SndCF E r g) : SndF E (tCB r ta) (eCall g fa) := by
  intro G W σ H s d s' R hf Q hq
  obtain ⟨xs, h1, h2⟩ := eCall_some hf
  refine ha G W σ H s xs s' R h1 _ fun vs H1 R1 z1 p1 => ?_
  refine hr _ H1 vs xs d p1 h2 _ fun p ys es hn e rs => ?_
  subst e
  exact hq p _ (none_back R z1 R1.there hn) (R1.laid hn) (z1.laid' hn) (new_list hn rs)
end
section
variable {X : Cx} {x : Str} {p pos : Pos} {e : Expr} {es : List Expr} {id T : String} {fa : Fa} {r : List V → Hp → VK → Prop} {g : List D → Option D}
theorem ve_callB (hc : CallR X (.builtin id) r) (hr : SndC (evX X) r g) (hg : Gl X x) (hm : X.mg x = none) (hv : bootBuiltins x = some (.builtin id)) (ha : VA X (e :: es) fa) (hn : x ≠ "__name__" := by decide) (hdb : (x == ("__debug__" : Str)) = false := by decide) (ns : NS X e es pos := by exact ⟨rfl, rfl⟩) :
    VE X (.Call (.Name x p) (e :: es) [] pos) (eCall g fa) := by
  obtain ⟨ta, pa, sa⟩ := ha.ex
  exact ⟨_, pe_callB hc hg hm hv pa hn hdb ns.he ns.hpl, snd_cb sa hr⟩
theorem vf_callB (hc : CallR X (.builtin id) r) (hr : SndCF (evX X) r g) (hg : Gl X x) (hm : X.mg x = none) (hv : bootBuiltins x = some (.builtin id)) (ha : VA X (e :: es) fa) (hn : x ≠ "__name__" := by decide) (hdb : (x == ("__debug__" : Str)) = false := by decide) (ns : NS X e es pos := by exact ⟨rfl, rfl⟩) :
    VF X (.Call (.Name x p) (e :: es) [] pos) (eCall g fa) := by
  obtain ⟨ta, pa, sa⟩ := ha.ex
  exact ⟨_, pe_callB hc hg hm hv pa hn hdb ns.he ns.hpl, snd_cbF sa hr⟩
theorem ve_callTy (hc : CallR X (.type T) r) (hr : SndC (evX X) r g) (hg : Gl X x) (hm : X.mg x = none) (hv : bootBuiltins x = some (.type T)) (ha : VA X (e :: es) fa) (hn : x ≠ "__name__" := by decide) (hdb : (x == ("__debug__" : Str)) = false := by decide) (ns : NS X e es pos := by exact ⟨rfl, rfl⟩) :
    VE X (.Call (.Name x p) (e :: es) [] pos) (eCall g fa) := by
  obtain ⟨ta, pa, sa⟩ := ha.ex
  exact ⟨_, pe_callTy hc hg hm hv pa hn hdb ns.he ns.hpl, snd_cb sa hr⟩
theorem vf_callTy (hc : CallR X (.type T) r) (hr : SndCF (evX X) r g) (hg : Gl X x) (hm : X.mg x = none) (hv : bootBuiltins x = some (.type T)) (ha : VA X (e :: es) fa) (hn : x ≠ "__name__" := by decide) (hdb : (x == ("__debug__" : Str)) = false := by decide) (ns : NS X e es pos := by exact ⟨rfl, rfl⟩) :
    VF X (.Call (.Name x p) (e :: es) [] pos) (eCall g fa) := by
  obtain ⟨ta, pa, sa⟩ := ha.ex
  exact ⟨_, pe_callTy hc hg hm hv pa hn hdb ns.he ns.hpl, snd_cbF sa hr⟩
end
/-! ### len, abs, min, max, sum, all, any -/
def lenD : List D → Option D
  | [.list xs] => some (.int xs.length)
  | [.tuple xs] => some (.int xs.length)
  | [.str z] => if z.length ≤ 100000 then some (.int z.length) else none
  | _ => none
def absD : List D → Option D
  | [.int i] => some (.int (if i < 0 then -i else i))
  | _ => none
def intsD : List D → Option (List Int)
  | [] => some []
  | .int i :: r => (intsD r).map (i :: ·)
  | _ :: _ => none
def blsD : List D → Option (List Bool)
  | [] => some []
  | .bool i :: r => (blsD r).map (i :: ·)
  | _ :: _ => none
def maxI : List Int → Int
  | [] => 0
  | x :: r => r.foldl (fun a b => if b > a then b else a) x
def minI : List Int → Int
  | [] => 0
  | x :: r => r.foldl (fun a b => if b < a then b else a) x
def max2D : List D → Option D
  | [.int i, .int j] => some (.int (if j > i then j else i))
  | _ => none
def min2D : List D → Option D
  | [.int i, .int j] => some (.int (if j < i then j else i))
  | _ => none
def maxLD : List D → Option D
  | [.list xs] => (intsD xs).bind fun ns => if ns = [] then none else some (.int (maxI ns))
  | _ => none
def minLD : List D → Option D
  | [.list xs] => (intsD xs).bind fun ns => if ns = [] then none else some (.int (minI ns))
  | _ => none
def sumD : List D → Option D
  | [.list xs] => (intsD xs).map fun ns => .int ns.sum
  | _ => none
def allD : List D → Option D
  | [.list xs] => (blsD xs).map fun bs => .bool (bs.all id)
  | _ => none
def anyD : List D → Option D
  | [.list xs] => (blsD xs).map fun bs => .bool (bs.any id)
  | _ => none
section
variable {E : Ev} {A : Addr → Prop} {H : Hp}
theorem intsD_eq : ∀ {ds : List D} {ns : List Int}, intsD ds = some ns → ds = ns.map .int
  | [], ns, h => by cases h; rfl
  | d :: r, ns, h => by
    cases d <;> simp only [intsD] at h
    all_goals first | (cases h; done) | skip
    simp only [Option.map_eq_some_iff] at h
    obtain ⟨ms, h1, rfl⟩ := h
    rw [intsD_eq h1]; rfl
theorem blsD_eq : ∀ {ds : List D} {ns : List Bool}, blsD ds = some ns → ds = ns.map .bool
  | [], ns, h => by cases h; rfl
  | d :: r, ns, h => by
    cases d <;> simp only [blsD] at h
    all_goals first | (cases h; done) | skip
    simp only [Option.map_eq_some_iff] at h
    obtain ⟨ms, h1, rfl⟩ := h
    rw [blsD_eq h1]; rfl
theorem Reps.ints : ∀ {xs : List V} {ns : List Int}, Reps E A H xs (ns.map .int) → xs = ns.map .int
  | [], [], _ => rfl
  | [], _ :: _, h => by cases h
  | _ :: _, [], h => by cases h
  | x :: xs, n :: ns, h => by
    cases h with
    | cons a b => cases a; rw [Reps.ints b]; rfl
theorem Reps.bls : ∀ {xs : List V} {ns : List Bool}, Reps E A H xs (ns.map .bool) → xs = ns.map .bl
  | [], [], _ => rfl
  | [], _ :: _, h => by cases h
  | _ :: _, [], h => by cases h
  | x :: xs, n :: ns, h => by
    cases h with
    | cons a b => cases a; rw [Reps.bls b]; rfl
theorem foldl_max (l : List Int) : ∀ x, (l.foldl (fun a b => if b > a then b else a) x) ∈ x :: l ∧ ∀ y ∈ x :: l, y ≤ l.foldl (fun a b => if b > a then b else a) x := by
  induction l with
  | nil => intro x; simp
  | cons b l ih =>
    intro x
    obtain ⟨h1, h2⟩ := ih (if b > x then b else x)
    rw [List.foldl_cons]
    refine ⟨?_, fun y hy => ?_⟩
    · rcases List.mem_cons.mp h1 with h | h
      · rw [h]; split <;> simp
      · simp [h]
    · have h3 := h2 (if b > x then b else x) List.mem_cons_self
      rcases List.mem_cons.mp hy with rfl | hy
      · exact Int.le_trans (by split <;> omega) h3
      · rcases List.mem_cons.mp hy with rfl | hy
        · exact Int.le_trans (by split <;> omega) h3
        · exact h2 y (List.mem_cons_of_mem _ hy)
theorem foldl_min (l : List Int) : ∀ x, (l.foldl (fun a b => if b < a then b else a) x) ∈ x :: l ∧ ∀ y ∈ x :: l, l.foldl (fun a b => if b < a then b else a) x ≤ y := by
  induction l with
  | nil => intro x; simp
  | cons b l ih =>
    intro x
    obtain ⟨h1, h2⟩ := ih (if b < x then b else x)
    rw [List.foldl_cons]
    refine ⟨?_, fun y hy => ?_⟩
    · rcases List.mem_cons.mp h1 with h | h
      · rw [h]; split <;> simp
      · simp [h]
    · have h3 := h2 (if b < x then b else x) List.mem_cons_self
      rcases List.mem_cons.mp hy with rfl | hy
      · exact Int.le_trans h3 (by split <;> omega)
      · rcases List.mem_cons.mp hy with rfl | hy
        · exact Int.le_trans h3 (by split <;> omega)
        · exact h2 y (List.mem_cons_of_mem _ hy)
theorem maxI_is {ns : List Int} (h : ns ≠ []) : maxI ns ∈ ns ∧ ∀ y ∈ ns, y ≤ maxI ns := by
  cases ns with
  | nil => exact absurd rfl h
  | cons x r => exact foldl_max r x
theorem minI_is {ns : List Int} (h : ns ≠ []) : minI ns ∈ ns ∧ ∀ y ∈ ns, minI ns ≤ y := by
  cases ns with
  | nil => exact absurd rfl h
  | cons x r => exact foldl_min r x
end
section
variable {X : Cx} {x : Str} {p pos : Pos} {e : Expr} {es : List Expr} {fa : Fa}
theorem ve_len (hg : Gl X "len") (hm : X.mg "len" = none) (ha : VA X (e :: es) fa) (ns : NS X e es pos := by exact ⟨rfl, rfl⟩) : VE X (.Call (.Name "len" p) (e :: es) [] pos) (eCall lenD fa) := by
  refine ve_callB (call_len_seq.or call_len_str) (SndCS.c ?_) hg hm PySem.boot_len ha (ns := ns)
  intro A H xs ds d rx e Q hq
  cases rx with
  | nil => cases e
  | cons r1 t =>
    cases t with
    | cons _ _ => cases r1 <;> simp [lenD] at e
    | nil =>
      cases r1 <;> simp only [lenD] at e
      all_goals first | (cases e; done) | skip
      · split at e
        · rename_i hl; cases e
          exact .inr ⟨_, rfl, line_of hl, hq _ fun _ _ => .int _⟩
        · cases e
      · rename_i a vs ds e1 r1
        cases e
        exact .inl ⟨a, vs, rfl, .inr e1.sqt, by rw [r1.length]; exact hq _ fun _ _ => .int _⟩
      · rename_i a vs ds n1 e1 r1
        cases e
        exact .inl ⟨a, vs, rfl, .inl (SqL.of e1), by rw [r1.length]; exact hq _ fun _ _ => .int _⟩
theorem ve_abs (hg : Gl X "abs") (hm : X.mg "abs" = none) (ha : VA X (e :: es) fa) (hv : bootBuiltins "abs" = some (.builtin "abs") := by decide +kernel) (ns : NS X e es pos := by exact ⟨rfl, rfl⟩) : VE X (.Call (.Name "abs" p) (e :: es) [] pos) (eCall absD fa) := by
  refine ve_callB call_abs (SndCS.c ?_) hg hm hv ha (ns := ns)
  intro A H xs ds d rx e Q hq
  cases rx with
  | nil => cases e
  | cons r1 t =>
    cases t with
    | cons _ _ => cases r1 <;> simp [absD] at e
    | nil =>
      cases r1 <;> simp only [absD] at e
      all_goals first | (cases e; done) | skip
      cases e
      exact ⟨_, rfl, hq _ fun _ _ => .int _⟩
theorem two_of {E : Ev} {A : Addr → Prop} {H : Hp} {xs : List V} {i j : Int} (r : Reps E A H xs [.int i, .int j]) : xs = [.int i, .int j] := by
  cases r with
  | cons a b => cases b with | cons c d => cases d; cases a; cases c; rfl
theorem ve_max2 (hc : X.calm = true) (hg : Gl X "max") (hm : X.mg "max" = none) (ha : VA X (e :: es) fa) (hv : bootBuiltins "max" = some (.builtin "max") := by decide +kernel) (ns : NS X e es pos := by exact ⟨rfl, rfl⟩) : VE X (.Call (.Name "max" p) (e :: es) [] pos) (eCall max2D fa) := by
  refine ve_callB (call_max2 hc) (SndCS.c ?_) hg hm hv ha (ns := ns)
  intro A H xs ds d rx e Q hq
  unfold max2D at e
  split at e
  · cases e
    rw [two_of rx]
    exact ⟨_, _, rfl, hq _ fun _ _ => .int _⟩
  · cases e
theorem ve_min2 (hc : X.calm = true) (hg : Gl X "min") (hm : X.mg "min" = none) (ha : VA X (e :: es) fa) (hv : bootBuiltins "min" = some (.builtin "min") := by decide +kernel) (ns : NS X e es pos := by exact ⟨rfl, rfl⟩) : VE X (.Call (.Name "min" p) (e :: es) [] pos) (eCall min2D fa) := by
  refine ve_callB (call_min2 hc) (SndCS.c ?_) hg hm hv ha (ns := ns)
  intro A H xs ds d rx e Q hq
  unfold min2D at e
  split at e
  · cases e
    rw [two_of rx]
    exact ⟨_, _, rfl, hq _ fun _ _ => .int _⟩
  · cases e
theorem one_lst {E : Ev} {A : Addr → Prop} {H : Hp} {xs : List V} {ds : List D} (r : Reps E A H xs [.list ds]) : ∃ a vs, xs = [.ref a] ∧ H a = some (.lst vs) ∧ Reps E A H vs ds := by
  cases r with
  | cons a b => cases b; cases a with | lst _ e r => exact ⟨_, _, rfl, e, r⟩
theorem ve_maxL (hc : X.calm = true) (hg : Gl X "max") (hm : X.mg "max" = none) (ha : VA X (e :: es) fa) (hv : bootBuiltins "max" = some (.builtin "max") := by decide +kernel) (ns : NS X e es pos := by exact ⟨rfl, rfl⟩) : VE X (.Call (.Name "max" p) (e :: es) [] pos) (eCall maxLD fa) := by
  refine ve_callB (cr_max hc) (SndCS.c ?_) hg hm hv ha (ns := ns)
  intro A H xs ds d rx e Q hq
  unfold maxLD at e
  split at e
  · rename_i ys
    simp only [Option.bind_eq_some_iff] at e
    obtain ⟨ns, h1, h2⟩ := e
    split at h2
    · cases h2
    · rename_i hne
      cases h2
      obtain ⟨a, vs, rfl, e1, r1⟩ := one_lst rx
      rw [intsD_eq h1] at r1
      rw [r1.ints] at e1
      refine ⟨a, ns, rfl, SqL.of e1, List.length_pos_iff.mpr hne, fun m hm hle => ?_⟩
      have q := maxI_is hne
      have : m = maxI ns := Int.le_antisymm (q.2 m hm) (hle _ q.1)
      rw [this]
      exact hq _ fun _ _ => .int _
  · cases e
theorem ve_minL (hc : X.calm = true) (hg : Gl X "min") (hm : X.mg "min" = none) (ha : VA X (e :: es) fa) (hv : bootBuiltins "min" = some (.builtin "min") := by decide +kernel) (ns : NS X e es pos := by exact ⟨rfl, rfl⟩) : VE X (.Call (.Name "min" p) (e :: es) [] pos) (eCall minLD fa) := by
  refine ve_callB (cr_min hc) (SndCS.c ?_) hg hm hv ha (ns := ns)
  intro A H xs ds d rx e Q hq
  unfold minLD at e
  split at e
  · rename_i ys
    simp only [Option.bind_eq_some_iff] at e
    obtain ⟨ns, h1, h2⟩ := e
    split at h2
    · cases h2
    · rename_i hne
      cases h2
      obtain ⟨a, vs, rfl, e1, r1⟩ := one_lst rx
      rw [intsD_eq h1] at r1
      rw [r1.ints] at e1
      refine ⟨a, ns, rfl, SqL.of e1, List.length_pos_iff.mpr hne, fun m hm hle => ?_⟩
      have q := minI_is hne
      have : m = minI ns := Int.le_antisymm (hle _ q.1) (q.2 m hm)
      rw [this]
      exact hq _ fun _ _ => .int _
  · cases e
theorem ve_sum (hc : X.calm = true) (hg : Gl X "sum") (hm : X.mg "sum" = none) (ha : VA X (e :: es) fa) (hv : bootBuiltins "sum" = some (.builtin "sum") := by decide +kernel) (ns : NS X e es pos := by exact ⟨rfl, rfl⟩) : VE X (.Call (.Name "sum" p) (e :: es) [] pos) (eCall sumD fa) := by
  refine ve_callB (cr_sum hc) (SndCS.c ?_) hg hm hv ha (ns := ns)
  intro A H xs ds d rx e Q hq
  unfold sumD at e
  split at e
  · simp only [Option.map_eq_some_iff] at e
    obtain ⟨ns, h1, rfl⟩ := e
    obtain ⟨a, vs, rfl, e1, r1⟩ := one_lst rx
    rw [intsD_eq h1] at r1
    rw [r1.ints] at e1
    exact ⟨a, ns, rfl, SqL.of e1, hq _ fun _ _ => .int _⟩
  · cases e
theorem ve_all (hc : X.calm = true) (hg : Gl X "all") (hm : X.mg "all" = none) (ha : VA X (e :: es) fa) (hv : bootBuiltins "all" = some (.builtin "all") := by decide +kernel) (ns : NS X e es pos := by exact ⟨rfl, rfl⟩) : VE X (.Call (.Name "all" p) (e :: es) [] pos) (eCall allD fa) := by
  refine ve_callB (cr_all hc) (SndCS.c ?_) hg hm hv ha (ns := ns)
  intro A H xs ds d rx e Q hq
  unfold allD at e
  split at e
  · simp only [Option.map_eq_some_iff] at e
    obtain ⟨ns, h1, rfl⟩ := e
    obtain ⟨a, vs, rfl, e1, r1⟩ := one_lst rx
    rw [blsD_eq h1] at r1
    rw [r1.bls] at e1
    exact ⟨a, ns, rfl, SqL.of e1, hq _ fun _ _ => .bl _⟩
  · cases e
theorem ve_any (hc : X.calm = true) (hg : Gl X "any") (hm : X.mg "any" = none) (ha : VA X (e :: es) fa) (hv : bootBuiltins "any" = some (.builtin "any") := by decide +kernel) (ns : NS X e es pos := by exact ⟨rfl, rfl⟩) : VE X (.Call (.Name "any" p) (e :: es) [] pos) (eCall anyD fa) := by
  refine ve_callB (cr_any hc) (SndCS.c ?_) hg hm hv ha (ns := ns)
  intro A H xs ds d rx e Q hq
  unfold anyD at e
  split at e
  · simp only [Option.map_eq_some_iff] at e
    obtain ⟨ns, h1, rfl⟩ := e
    obtain ⟨a, vs, rfl, e1, r1⟩ := one_lst rx
    rw [blsD_eq h1] at r1
    rw [r1.bls] at e1
    exact ⟨a, ns, rfl, SqL.of e1, hq _ fun _ _ => .bl _⟩
  · cases e
/-! ### list(..), tuple(..) -/
def listD : List D → Option D
  | [.list xs] => some (.list xs)
  | [.tuple xs] => some (.list xs)
  | _ => none
def tupD : List D → Option D
  | [.list xs] => some (.tuple xs)
  | [.tuple xs] => some (.tuple xs)
  | _ => none
theorem vf_list (hg : Gl X "list") (hm : X.mg "list" = none) (ha : VA X (e :: es) fa) (hv : bootBuiltins "list" = some (.type "list") := by decide +kernel) (ns : NS X e es pos := by exact ⟨rfl, rfl⟩) : VF X (.Call (.Name "list" p) (e :: es) [] pos) (eCall listD fa) := by
  refine vf_callTy call_list_of ?_ hg hm hv ha (ns := ns)
  intro A H xs ds d rx e Q hq
  cases rx with
  | nil => cases e
  | cons r1 t =>
    cases t with
    | cons _ _ => cases r1 <;> simp [listD] at e
    | nil =>
      cases r1 <;> simp only [listD] at e
      all_goals first | (cases e; done) | skip
      · rename_i a vs ds e1 r1
        cases e
        exact ⟨a, vs, rfl, .inr e1.sqt, fun l hl => hq l vs ds hl rfl r1⟩
      · rename_i a vs ds n1 e1 r1
        cases e
        exact ⟨a, vs, rfl, .inl (SqL.of e1), fun l hl => hq l vs ds hl rfl r1⟩
theorem ve_tuple (hg : Gl X "tuple") (hm : X.mg "tuple" = none) (ha : VA X (e :: es) fa) (hv : bootBuiltins "tuple" = some (.type "tuple") := by decide +kernel) (ns : NS X e es pos := by exact ⟨rfl, rfl⟩) : VE X (.Call (.Name "tuple" p) (e :: es) [] pos) (eCall tupD fa) := by
  refine ve_callTy call_tuple_of ?_ hg hm hv ha (ns := ns)
  intro A H fre xs ds d rx e Q hq
  cases rx with
  | nil => cases e
  | cons r1 t =>
    cases t with
    | cons _ _ => cases r1 <;> simp [tupD] at e
    | nil =>
      cases r1 <;> simp only [tupD] at e
      all_goals first | (cases e; done) | skip
      · rename_i a vs ds e1 r1
        cases e
        exact ⟨a, vs, rfl, .inr ⟨e1.sqt, hq _ H (Same.refl H) (.tup e1 r1)⟩⟩
      · rename_i a vs ds n1 e1 r1
        cases e
        exact ⟨a, vs, rfl, .inl ⟨SqL.of e1, fun l hl => hq _ _ (same_new hl) (.tup (.inl ⟨fre.no hl, upd_same⟩) (r1.fz (Fz.of_same (same_new hl))))⟩⟩
end
end Fx
-- Fx5
namespace Fx
open PySem PySem.Spec L2

/-! ### isinstance -/
def tyN : D → Option String
  | .none => some "NoneType"
  | .bool _ => some "bool"
  | .int _ => some "int"
  | .str _ => some "str"
  | .list _ => some "list"
  | .tuple _ => some "tuple"
  | .dict _ => none
inductive Ty where | int | bool | str | list | tuple
def Ty.name : Ty → String
  | .int => "int" | .bool => "bool" | .str => "str" | .list => "list" | .tuple => "tuple"
def isiB : Ty → D → Option Bool
  | _, .dict _ => none
  | .int, .int _ => some true
  | .int, .bool _ => some true
  | .bool, .bool _ => some true
  | .str, .str _ => some true
  | .list, .list _ => some true
  | .tuple, .tuple _ => some true
  | _, _ => some false
def isiD (T : Ty) (d : D) : Option D := (isiB T d).map .bool
theorem kit_is (T : Ty) (d : D) {n : String} {b : Bool} (h : tyN d = some n) (e : isiB T d = some b) : kitB n T.name = some b := by
  cases T <;> cases d <;> simp only [tyN, isiB] at h e <;> cases h <;> cases e <;> decide +kernel
theorem Rep.ty {E : Ev} {A : Addr → Prop} {H : Hp} {v : V} {d : D} {b : Bool} {T : Ty} (r : Rep E A H v d) (e : isiB T d = some b) : ∃ n, tyN d = some n ∧ TyX E.K H v (.type n) := by
  cases r with
  | non => exact ⟨_, rfl, .base .non⟩
  | bl b => exact ⟨_, rfl, .base (.bl b)⟩
  | int i => exact ⟨_, rfl, .base (.int i)⟩
  | str x => exact ⟨_, rfl, .base (.str x)⟩
  | tup h r =>
    refine ⟨_, rfl, ?_⟩
    rcases h with h | ⟨_, o, its, n, h1, h2, _⟩
    · exact .base (.tup h.2)
    · exact .kTuple h1 h2
  | lst n h r => exact ⟨_, rfl, .base (.lst h)⟩
  | dt => cases T <;> cases e
  | dk => cases T <;> cases e
section
variable {X : Cx} {p p2 p3 pos : Pos} {e : Expr} {f : Fe}
def nameT (T : Ty) : Str := Str.ofString T.name
theorem ve_isi (T : Ty) (hg : Gl X "isinstance") (hm : X.mg "isinstance" = none) (hgT : Gl X (nameT T)) (hmT : X.mg (nameT T) = none) (h : VE X e f) {x : Str} (hx : x = nameT T := by rfl) (hv : bootBuiltins "isinstance" = some (.builtin "isinstance") := by decide +kernel) (hvT : bootBuiltins (nameT T) = some (.type T.name) := by decide +kernel)
    (hn : nameT T ≠ "__name__" := by decide +kernel) (hd : (nameT T == ("__debug__" : Str)) = false := by decide +kernel) (ns : NS X e [.Name x p2] pos := by exact ⟨rfl, rfl⟩) (hs : starEach [.Name x p2] X.env = (false, eval (.Name x p2) X.env) :: starEach [] X.env := by rfl) :
    VE X (.Call (.Name "isinstance" p) [e, .Name x p2] [] pos) (eUn (isiD T) f) := by
  subst hx
  obtain ⟨t, pe, sn⟩ := h.ex
  refine ⟨_, pe_callB call_isi hg hm hv (pa_cons pe (pa_cons (pe_bltn (v := .ty T.name) hgT hmT hvT rfl hn hd) pa_nil hs) ns.he) (by decide) (by decide) ns.he ns.hpl, ?_⟩
  intro G W σ H s d s' R hf Q hq
  obtain ⟨x, h1, h2⟩ := eUn_some hf
  refine sn G W σ H s x s' R h1 _ fun v H1 R1 z1 p1 => ?_
  unfold isiD at h2
  simp only [Option.map_eq_some_iff] at h2
  obtain ⟨b, h3, rfl⟩ := h2
  obtain ⟨n, e1, ty⟩ := p1.ty h3
  exact ⟨v, .ty T.name, .type n, .type T.name, b, rfl, .ty _, ty, kit_ty (kit_is T x e1 h3), hq _ H1 R1 z1 (.bl b)⟩
end
/-! ### sorted -/
def sortableB (ds : List D) : Bool := ds.all (fun d => match d with | .tuple (_ :: _) => true | _ => false) || ds.all (fun d => match d with | .none => false | .tuple _ => false | _ => true)
def alikeB (ds : List D) : Bool := ds.all fun d => ds.all fun d' => PySem.W.alike d d'
def shapedB (ds : List D) : Bool := ds.all fun d => d.canLay0 && decide (d.depth ≤ 60)
def sortL (ds : List D) : List D := ds.mergeSort (PySem.W.dataLe false id)
def sortedD : List D → Option D
  | [.list ds] => if alikeB ds = true ∧ sortableB ds = true ∧ shapedB ds = true then some (.list (sortL ds)) else none
  | [.tuple ds] => none
  | _ => none
theorem sortable_of {ds : List D} (h : sortableB ds = true) : PySem.W.Sortable ds := by
  unfold sortableB at h
  rw [Bool.or_eq_true] at h
  rcases h with h | h
  · refine .inl fun d hd => ?_
    have q := List.all_eq_true.mp h d hd
    split at q
    · exact ⟨_, _, rfl⟩
    · cases q
  · refine .inr fun d hd => ?_
    have q := List.all_eq_true.mp h d hd
    split at q
    · cases q
    · cases q
    · rename_i h1 h2
      exact ⟨fun z => h1 z, fun xs z => h2 xs z⟩
theorem alike_of {ds : List D} (h : alikeB ds = true) : PySem.W.AllAlike ds := fun d hd d' hd' => List.all_eq_true.mp (List.all_eq_true.mp h d hd) d' hd'
def rSortD (K : PySem.W.Frag) : List V → Hp → VK → Prop := fun vs H Q => ∃ (a : Addr) (xs : List V) (ds : List D), vs = [V.ref a] ∧ SqL K H a xs ∧ DpAll K H xs ds ∧ alikeB ds = true ∧ sortableB ds = true ∧ shapedB ds = true ∧
  ∀ p, H p = none → Q (.ref p) (upd H p (.lst (((xs.zip ds).mergeSort (PySem.W.dataLe false (·.2))).map (·.1))))
theorem dpAll_length {K : PySem.W.Frag} {H : Hp} : ∀ {xs : List V} {ds : List D}, DpAll K H xs ds → xs.length = ds.length
  | _, _, .nil => rfl
  | _, _, .cons _ t => by simp [dpAll_length t]
theorem each_zip {h : Heap} : ∀ {xs : List V} {us : List Value} {ds : List D} {as : List Addr}, Vals xs us → PySem.ReadsAll h us ds as →
    PySem.W.EachIs (fun (u : Value) (b : V × D) => RelV b.1 u) us (xs.zip ds) ∧ PySem.W.EachIs (fun (u : Value) (b : V × D) => ∃ as, PySem.Reads h u b.2 as) us (xs.zip ds)
  | _, _, _, _, .nil, .nil => ⟨.nil, .nil⟩
  | _, _, _, _, .cons r t, .cons h1 h2 => let ⟨a, b⟩ := each_zip t h2; ⟨.cons r a, .cons ⟨_, h1⟩ b⟩
theorem vals_each : ∀ {us : List Value} {bs : List (V × D)}, PySem.W.EachIs (fun (u : Value) (b : V × D) => RelV b.1 u) us bs → Vals (bs.map (·.1)) us
  | _, _, .nil => .nil
  | _, _, .cons r t => .cons r (vals_each t)
theorem cr_sortD {X : Cx} (hu : X.A.units + 64 < cLine) : CallR X (.builtin "sorted") (rSortD X.K) := by
  intro pins s σ H vs us Q I r h
  obtain ⟨a, xs, ds, rfl, hs, hd, ha, hk, hz, q⟩ := h
  obtain ⟨its, rv, hl, hz'⟩ := I.list hs
  rw [Vals.ref1 r]
  obtain ⟨as, rd⟩ := Dp.readsAll I ds xs its hd rv
  obtain ⟨e1, e2⟩ := each_zip rv rd
  have em : (xs.zip ds).map (fun b => b.2) = ds := List.map_snd_zip (Nat.le_of_eq (dpAll_length hd).symm)
  have el : (xs.zip ds).length = xs.length := by rw [List.length_zip, dpAll_length hd]; exact Nat.min_self _
  refine PySem.W.sorted_data (enc := fun b : V × D => b.2) hl.isList e1 e2 (by rw [em]; exact alike_of ha) (by rw [em]; exact sortable_of hk) (by rw [el]; exact hz') (fun b hb => ?_) fun out ho he => ?_
  · have hb' : b.2 ∈ ds := by rw [← em]; exact List.mem_map.mpr ⟨b, hb, rfl⟩
    have q := List.all_eq_true.mp hz _ hb'
    simp only [Bool.and_eq_true, decide_eq_true_eq] at q
    omega
  · obtain ⟨ep, he'⟩ := PyProof.Rows.sortedAll_at s.heap its out.toArray
    have hlen : (((xs.zip ds).mergeSort (PySem.W.dataLe false (·.2))).map (·.1)).length ≤ sizeLine := by
      rw [List.length_map, List.length_mergeSort, el]
      exact hz'
    exact ⟨.ref _, upd H (s.heap.objs.size + 1) (.lst (((xs.zip ds).mergeSort (PySem.W.dataLe false (·.2))).map (·.1))), I.laid (t' := s.toks) (fun _ _ => PyProof.Rows.sortedAll_old) (Nat.le_succ _) ⟨hlen, out, ep, vals_each he, he'⟩, rfl, q _ (I.hok.fresh (Nat.le_succ _))⟩
theorem Reps.zip {E : Ev} {A : Addr → Prop} {H : Hp} : ∀ {xs : List V} {ds : List D}, Reps E A H xs ds → ∀ b ∈ xs.zip ds, Rep E A H b.1 b.2
  | _, _, .nil, b, h => by cases h
  | _, _, .cons r t, b, h => by
    rcases List.mem_cons.mp h with rfl | h
    · exact r
    · exact Reps.zip t b h
theorem Reps.of_pairs {E : Ev} {A : Addr → Prop} {H : Hp} : ∀ {bs : List (V × D)}, (∀ b ∈ bs, Rep E A H b.1 b.2) → Reps E A H (bs.map (·.1)) (bs.map (·.2))
  | [], _ => .nil
  | b :: bs, h => .cons (h b List.mem_cons_self) (Reps.of_pairs fun c hc => h c (List.mem_cons_of_mem _ hc))
theorem sort_snd {xs : List V} {ds : List D} (hl : xs.length = ds.length) : ((xs.zip ds).mergeSort (PySem.W.dataLe false (·.2))).map (·.2) = sortL ds := by
  have h := PySem.W.sort_maps (r := PySem.W.dataLe false fun b : V × D => b.2) (s := PySem.W.dataLe false id) (fun b : V × D => b.2) (l := xs.zip ds) (fun _ _ _ _ => rfl)
  rw [List.map_snd_zip (Nat.le_of_eq hl.symm)] at h
  exact h
theorem shaped_canLay {ds : List D} (h : shapedB ds = true) : PyData.canLayAll0 ds = true := by
  induction ds with
  | nil => rfl
  | cons d ds ih =>
    unfold shapedB at h
    rw [List.all_cons, Bool.and_eq_true, Bool.and_eq_true] at h
    rw [PyData.canLayAll0, h.1.1, ih h.2]
    rfl
section
variable {X : Cx} {p pos : Pos} {e : Expr} {es : List Expr} {fa : Fa}
theorem vf_sorted (hu : X.A.units + 64 < cLine) (hg : Gl X "sorted") (hm : X.mg "sorted" = none) (ha : VA X (e :: es) fa) (hv : bootBuiltins "sorted" = some (.builtin "sorted") := by decide +kernel) (ns : NS X e es pos := by exact ⟨rfl, rfl⟩) : VF X (.Call (.Name "sorted" p) (e :: es) [] pos) (eCall sortedD fa) := by
  refine vf_callB (cr_sortD hu) ?_ hg hm hv ha (ns := ns)
  intro A H xs ds d rx e Q hq
  unfold sortedD at e
  split at e
  · rename_i ys
    split at e
    · rename_i hc
      cases e
      obtain ⟨a, vs, rfl, e1, r1⟩ := one_lst rx
      refine ⟨a, vs, ys, rfl, SqL.of e1, r1.dp (shaped_canLay hc.2.2), hc.1, hc.2.1, hc.2.2, fun q hn => ?_⟩
      refine hq q _ _ hn rfl ?_
      rw [← sort_snd r1.length]
      exact Reps.of_pairs fun b hb => r1.zip b (List.mem_mergeSort.mp hb)
    · cases e
  · cases e
  · cases e
end
end Fx
-- Fx6
namespace Fx
open PySem PySem.Spec L2
/-! ### in, not in: lists and tuples of data -/
def rInU (K : PySem.W.Frag) (neg : Bool) : R2 := fun x y H Q => ∃ d ds, Dp K H x d ∧ Dp K H y (.tuple ds) ∧ SeqAt.shaped d = true ∧ SeqAt.shaped (.tuple ds) = true ∧ Q (.bl (if neg then !ds.any fun z => PyData.eqv z d else ds.any fun z => PyData.eqv z d)) H
theorem op_inU {X : Cx} (hu : X.A.units + 65 < cLine) : OpR X (compareOp .In) (rInU X.K false) := by
  intro pins s σ H x y v u Q I rx ry h
  obtain ⟨d, ds, hd, he, sd, se, q⟩ := h
  obtain ⟨as, r1⟩ := Dp.reads I d x v hd rx
  obtain ⟨bs, r2⟩ := Dp.reads I (.tuple ds) y u he ry
  exact SeqAt.in_tuple_reads r2 r1 (SeqAt.canLay_of_shaped se) (SeqAt.canLay_of_shaped sd) (PyProof.Rows.room_in_shaped sd hu) ⟨.bl _, H, I, rfl, q⟩
theorem op_notInU {X : Cx} (hu : X.A.units + 65 < cLine) : OpR X (compareOp .NotIn) (rInU X.K true) := by
  intro pins s σ H x y v u Q I rx ry h
  obtain ⟨d, ds, hd, he, sd, se, q⟩ := h
  obtain ⟨as, r1⟩ := Dp.reads I d x v hd rx
  obtain ⟨bs, r2⟩ := Dp.reads I (.tuple ds) y u he ry
  exact SeqAt.notIn_tuple_reads r2 r1 (SeqAt.canLay_of_shaped se) (SeqAt.canLay_of_shaped sd) (PyProof.Rows.room_in_shaped sd hu) ⟨.bl _, H, I, rfl, q⟩
def seqD : D → Option (List D)
  | .list xs => some xs
  | .tuple xs => some xs
  | _ => none
def inD (d c : D) : Option D := (seqD c).bind fun ds => if SeqAt.shaped d = true ∧ SeqAt.shaped c = true then some (.bool (ds.any fun z => PyData.eqv z d)) else none
def notInD (d c : D) : Option D := (seqD c).bind fun ds => if SeqAt.shaped d = true ∧ SeqAt.shaped c = true then some (.bool (!ds.any fun z => PyData.eqv z d)) else none
section
variable {E : Ev}
theorem sr_in : SndRS E (fun x y H Q => rInD E.K x y H Q ∨ rInU E.K false x y H Q) inD := by
  intro A H x y dx dy dz rx ry e Q hq
  unfold inD at e
  simp only [Option.bind_eq_some_iff] at e
  obtain ⟨ds, h1, h2⟩ := e
  split at h2
  · rename_i hs
    cases h2
    cases dy <;> simp only [seqD] at h1
    all_goals first | (cases h1; done) | skip
    · cases h1
      exact .inl ⟨dx, ds, rx.dp (shaped_lay hs.1), ry.dp (shaped_lay hs.2), hs.1, hs.2, hq _ fun _ _ => .bl _⟩
    · cases h1
      exact .inr ⟨dx, ds, rx.dp (shaped_lay hs.1), ry.dp (shaped_lay hs.2), hs.1, hs.2, hq _ fun _ _ => .bl _⟩
  · cases h2
theorem sr_notIn : SndRS E (fun x y H Q => rNotInD E.K x y H Q ∨ rInU E.K true x y H Q) notInD := by
  intro A H x y dx dy dz rx ry e Q hq
  unfold notInD at e
  simp only [Option.bind_eq_some_iff] at e
  obtain ⟨ds, h1, h2⟩ := e
  split at h2
  · rename_i hs
    cases h2
    cases dy <;> simp only [seqD] at h1
    all_goals first | (cases h1; done) | skip
    · cases h1
      exact .inl ⟨dx, ds, rx.dp (shaped_lay hs.1), ry.dp (shaped_lay hs.2), hs.1, hs.2, hq _ fun _ _ => .bl _⟩
    · cases h1
      exact .inr ⟨dx, ds, rx.dp (shaped_lay hs.1), ry.dp (shaped_lay hs.2), hs.1, hs.2, hq _ fun _ _ => .bl _⟩
  · cases h2
end
section
variable {X : Cx} {a b : Expr} {f f1 f2 : Fe} {pos : Pos}
theorem ve_in (hu : X.A.units + 65 < cLine) (ha : VE X a f1) (hb : VE X b f2) (hm : behindInMarks .In b = false := by rfl) : VE X (.Compare a [.In] [b] pos) (eBin inD f1 f2) := ve_cmp ((op_inD hu).or (op_inU hu)) sr_in.r ha hb hm
theorem vt_in (hu : X.A.units + 65 < cLine) (ha : VE X a f1) (hb : VE X b f2) (hm : behindInMarks .In b = false := by rfl) : VT X (.Compare a [.In] [b] pos) (eBin inD f1 f2) := vt_cmp ((op_inD hu).or (op_inU hu)) sr_in.r ha hb hm
theorem ve_notIn (hu : X.A.units + 65 < cLine) (ha : VE X a f1) (hb : VE X b f2) (hm : behindInMarks .NotIn b = false := by rfl) : VE X (.Compare a [.NotIn] [b] pos) (eBin notInD f1 f2) := ve_cmp ((op_notInD hu).or (op_notInU hu)) sr_notIn.r ha hb hm
theorem vt_notIn (hu : X.A.units + 65 < cLine) (ha : VE X a f1) (hb : VE X b f2) (hm : behindInMarks .NotIn b = false := by rfl) : VT X (.Compare a [.NotIn] [b] pos) (eBin notInD f1 f2) := vt_cmp ((op_notInD hu).or (op_notInU hu)) sr_notIn.r ha hb hm
end
/-! ### slices -/
abbrev Fo := S → Option (Option Int × S)
def SndO (E : Ev) (t : TO) (f : Fo) : Prop := ∀ G W σ H s d s', Rel E G W H σ s → f s = some (d, s') → ∀ Q : Option Int → Hp → Prop,
  (∀ H', Rel E G W H' σ s' → Fz (Av G W) (Av G W) H H' → Q d H') → t σ H Q
structure VO (X : Cx) (e : Option Expr) (f : Fo) : Prop where
  ex : ∃ t, PO X e t ∧ SndO (evX X) t f
def oNone : Fo := fun s => some (none, s)
def oSome (f : Fe) : Fo := fun s => (f s).bind fun (x, s1) => match x with
  | .int i => some (some i, s1)
  | _ => none
/-- xs[lo:hi] -/
def cutL {α : Type} (xs : List α) (lo hi : Option Int) : List α := (xs.drop (HT.sIx xs.length 0 lo)).take (HT.sIx xs.length xs.length hi - HT.sIx xs.length 0 lo)
def eSl (g : D → Option Int → Option Int → Option D) (f : Fe) (l h : Fo) : Fe := fun s => (f s).bind fun (x, s1) => (l s1).bind fun (lo, s2) => (h s2).bind fun (hi, s3) => (g x lo hi).map fun z => (z, s3)
def slT (d : D) (lo hi : Option Int) : Option D := match d with
  | .tuple xs => some (.tuple (cutL xs lo hi))
  | .str z => if z.length ≤ 100000 then some (.str (cutS z lo hi)) else none
  | _ => none
def slL (d : D) (lo hi : Option Int) : Option D := match d with
  | .list xs => some (.list (cutL xs lo hi))
  | _ => none
section
variable {X : Cx} {a b : Expr} {f f1 f2 : Fe} {pos p2 : Pos} {l h : Fo} {lo hi : Option Expr}
theorem vo_none : VO X none oNone := ⟨_, po_none, fun G W σ H s d s' R hf Q hq => by cases hf; exact hq H R Fz.refl⟩
theorem vo_some (he : VE X a f) : VO X (some a) (oSome f) := by
  obtain ⟨t, p, sn⟩ := he.ex
  refine ⟨_, po_some p, ?_⟩
  intro G W σ H s d s' R hf Q hq
  unfold oSome at hf
  simp only [Option.bind_eq_some_iff] at hf
  obtain ⟨⟨x, s1⟩, h1, h2⟩ := hf
  dsimp only at h2
  split at h2
  · cases h2
    refine sn G W σ H s _ _ R h1 _ fun v H1 R1 z1 p1 => ?_
    cases p1
    exact ⟨_, rfl, hq H1 R1 z1⟩
  · cases h2
theorem eSl_some {g : D → Option Int → Option Int → Option D} {s s' : S} {d : D} (e : eSl g f l h s = some (d, s')) : ∃ x s1 i s2 j, f s = some (x, s1) ∧ l s1 = some (i, s2) ∧ h s2 = some (j, s') ∧ g x i j = some d := by
  unfold eSl at e
  simp only [Option.bind_eq_some_iff, Option.map_eq_some_iff] at e
  obtain ⟨⟨x, s1⟩, h1, ⟨i, s2⟩, h2, ⟨j, s3⟩, h3, z, h4, h5⟩ := e
  cases h5
  exact ⟨x, s1, i, s2, j, h1, h2, h3, h4⟩
theorem Reps.drop {E : Ev} {A : Addr → Prop} {H : Hp} : ∀ {xs : List V} {ds : List D} (n : Nat), Reps E A H xs ds → Reps E A H (xs.drop n) (ds.drop n)
  | _, _, 0, r => r
  | _, _, _ + 1, .nil => .nil
  | _, _, n + 1, .cons _ t => Reps.drop n t
theorem Reps.take {E : Ev} {A : Addr → Prop} {H : Hp} : ∀ {xs : List V} {ds : List D} (n : Nat), Reps E A H xs ds → Reps E A H (xs.take n) (ds.take n)
  | _, _, 0, _ => .nil
  | _, _, _ + 1, .nil => .nil
  | _, _, n + 1, .cons r t => .cons r (Reps.take n t)
theorem Reps.cut {E : Ev} {A : Addr → Prop} {H : Hp} {xs : List V} {ds : List D} (r : Reps E A H xs ds) (lo hi : Option Int) : Reps E A H (cutV xs lo hi) (cutL ds lo hi) := by
  unfold cutV cutL
  rw [r.length]
  exact (r.drop _).take _
theorem ve_slT (he : VE X a f) (hl : VO X lo l) (hh : VO X hi h) : VE X (.Subscript a (.Slice lo hi none p2) pos) (eSl slT f l h) := by
  obtain ⟨t, p, sn⟩ := he.ex
  obtain ⟨tl, pl, sl⟩ := hl.ex
  obtain ⟨th, ph, sh⟩ := hh.ex
  refine ⟨_, pe_slice (sl_tupA.or sl_str) p pl ph, ?_⟩
  intro G W σ H s d s' R hf Q hq
  obtain ⟨x, s1, i, s2, j, h1, h2, h3, h4⟩ := eSl_some hf
  refine sn G W σ H s _ _ R h1 _ fun v H1 R1 z1 p1 => ?_
  refine sl G W σ H1 s1 _ _ R1 h2 _ fun H2 R2 z2 => ?_
  refine sh G W σ H2 s2 _ _ R2 h3 _ fun H3 R3 z3 => ?_
  have p3 := (p1.fz z2).fz z3
  have zz := (z1.trans z2).trans z3
  cases p3 <;> simp only [slT] at h4
  all_goals first | (cases h4; done) | skip
  · split at h4
    · rename_i hl; cases h4
      exact .inr ⟨_, rfl, line_of hl, hq _ H3 R3 zz (.str _)⟩
    · cases h4
  · rename_i a xs ds e1 r1
    cases h4
    refine .inl ⟨a, xs, rfl, e1.sqt, fun hw => ?_, fun hw q hn => ?_⟩
    · refine hq _ H3 R3 zz ?_
      have e : cutL ds i j = ds := by
        unfold cutL
        rw [← r1.length, hw.1, hw.2]
        simp [r1.length]
      rw [e]
      exact .tup e1 r1
    · have k := same_new (o := .tup (cutV xs i j)) hn
      exact hq _ _ (R3.same k) (zz.trans (Fz.of_same k)) (.tup (.inl ⟨R3.free hn, upd_same⟩) ((r1.cut i j).fz (Fz.of_same k)))
theorem vf_sl (he : VE X a f) (hl : VO X lo l) (hh : VO X hi h) : VF X (.Subscript a (.Slice lo hi none p2) pos) (eSl slL f l h) := by
  obtain ⟨t, p, sn⟩ := he.ex
  obtain ⟨tl, pl, sl⟩ := hl.ex
  obtain ⟨th, ph, sh⟩ := hh.ex
  refine ⟨_, pe_slice sl_list p pl ph, ?_⟩
  intro G W σ H s d s' R hf Q hq
  obtain ⟨x, s1, i, s2, j, h1, h2, h3, h4⟩ := eSl_some hf
  refine sn G W σ H s _ _ R h1 _ fun v H1 R1 z1 p1 => ?_
  refine sl G W σ H1 s1 _ _ R1 h2 _ fun H2 R2 z2 => ?_
  refine sh G W σ H2 s2 _ _ R2 h3 _ fun H3 R3 z3 => ?_
  have p3 := (p1.fz z2).fz z3
  have zz := (z1.trans z2).trans z3
  cases p3 <;> simp only [slL] at h4
  all_goals first | (cases h4; done) | skip
  rename_i a xs ds n1 e1 r1
  cases h4
  exact ⟨a, xs, rfl, SqL.of e1, fun q hn => hq q _ (none_back R zz R3.there hn) (R3.laid hn) (zz.laid' hn) (new_list hn (r1.cut i j))⟩
/-- xs[::-1] -/
def revD : D → Option D
  | .list xs => some (.list xs.reverse)
  | _ => none
theorem Reps.reverse {E : Ev} {A : Addr → Prop} {H : Hp} : ∀ {xs : List V} {ds : List D}, Reps E A H xs ds → Reps E A H xs.reverse ds.reverse
  | _, _, .nil => .nil
  | _, _, .cons r t => by
    rw [List.reverse_cons, List.reverse_cons]
    exact (Reps.reverse t).append (.cons r .nil)
theorem vf_rev {k : Nat} {q1 q2 q3 : Pos} (he : VE X a f) : VF X (.Subscript a (.Slice none none (some (.UnaryOp .USub (.Constant (.int 1) k q1) q2)) q3) pos) (eUn revD f) := by
  obtain ⟨t, p, sn⟩ := he.ex
  refine ⟨_, pe_revL p, ?_⟩
  intro G W σ H s d s' R hf Q hq
  obtain ⟨x, h1, h2⟩ := eUn_some hf
  refine sn G W σ H s _ _ R h1 _ fun v H1 R1 z1 p1 => ?_
  cases p1 <;> simp only [revD] at h2
  all_goals first | (cases h2; done) | skip
  rename_i a xs ds n1 e1 r1
  cases h2
  exact ⟨a, xs, rfl, SqL.of e1, fun q hn => hq q _ (none_back R z1 R1.there hn) (R1.laid hn) (z1.laid' hn) (new_list hn r1.reverse)⟩
end
end Fx
-- Fx7
namespace Fx
open PySem PySem.Spec L2

/-! ### promises of defs: functions on data -/
/-- a value -/
def spV (E : Ev) (n : Nat) (g : List D → Option D) : Sp := fun vs H Q _ => ∃ (O : Addr → Prop) (ds : List D) (d : D), ds.length = n ∧ Reps E O H vs ds ∧ Fre O H ∧ g ds = some d ∧
  ∀ v H', Same H H' → Rep E O H' v d → Q v H'
/-- a new list or dict -/
def spL (E : Ev) (n : Nat) (g : List D → Option D) : Sp := fun vs H Q _ => ∃ (O : Addr → Prop) (ds : List D) (d : D), ds.length = n ∧ Reps E O H vs ds ∧ Fre O H ∧ g ds = some d ∧
  ∀ p H', Same H H' → H p = none → Top E (fun a => O a ∨ a = p) H' p d → Q (.ref p) H'
theorem spV_len {E : Ev} {n : Nat} {g : List D → Option D} : ∀ vs H Q X, spV E n g vs H Q X → vs.length = n := fun vs H Q X ⟨_, ds, _, h1, h2, _⟩ => by rw [h2.length]; exact h1
theorem spL_len {E : Ev} {n : Nat} {g : List D → Option D} : ∀ vs H Q X, spL E n g vs H Q X → vs.length = n := fun vs H Q X ⟨_, ds, _, h1, h2, _⟩ => by rw [h2.length]; exact h1
def eFn (n : Nat) (g : List D → Option D) (fa : Fa) : Fe := fun s => (fa s).bind fun (xs, s1) => if xs.length = n then (g xs).map fun z => (z, s1) else none
theorem eFn_some {n : Nat} {g : List D → Option D} {fa : Fa} {s s' : S} {d : D} (h : eFn n g fa s = some (d, s')) : ∃ xs, fa s = some (xs, s') ∧ xs.length = n ∧ g xs = some d := by
  unfold eFn at h
  simp only [Option.bind_eq_some_iff] at h
  obtain ⟨⟨x, s1⟩, h1, h2⟩ := h
  dsimp only at h2
  split at h2
  · simp only [Option.map_eq_some_iff] at h2
    obtain ⟨z, h3, h4⟩ := h2
    cases h4
    exact ⟨x, h1, by assumption, h3⟩
  · cases h2
section
variable {X : Cx} {k n : Nat} {f : Addr} {fd : FuncData} {ps : List Str} {g : List D → Option D} {x : Str} {p pos : Pos} {e : Expr} {es : List Expr} {fa : Fa}
theorem ve_fn (F : FnOk X.prog X.w X.K X.mg X.base CX0 k f fd ps (spV (evX X) n g)) (hr : Room k X.A) (hg : Gl X x) (hm : X.mg x = some (.ref f)) (hk : PySem.W.keepIn X.K (.ref f) = true) (hb : Binds X.K fd ps []) (ha : VA X (e :: es) fa) (hdb : (x == ("__debug__" : Str)) = false := by decide +kernel) (ns : NS X e es pos := by exact ⟨rfl, rfl⟩) :
    VE X (.Call (.Name x p) (e :: es) [] pos) (eFn n g fa) := by
  obtain ⟨t, pa, sa⟩ := ha.ex
  refine ⟨_, pe_call F hr hg hm hk hb .nil pass0 pa hdb ns.he ns.hpl, ?_⟩
  intro G W σ H s d s' R hf Q hq
  obtain ⟨xs, h1, h2, h3⟩ := eFn_some hf
  refine sa G W σ H s xs s' R h1 _ fun vs H1 R1 z1 p1 => ?_
  refine ⟨Av G W, xs, d, h2, by rw [List.append_nil]; exact p1, R1.fre, h3, fun v H2 sm p2 => ?_⟩
  exact hq v H2 (R1.same sm) (z1.trans (Fz.of_same sm)) p2
theorem Rel.bar {E : Ev} {G : Cfg} {W : Wt} {H H' : Hp} {σ : L2.St} {s : S} {p : Addr} (R : Rel E G W H σ s) (k : Same H H') (h : H p = none) (h' : ∃ o, H' p = some o ∧ NT o) : Rel E (G.bar p) W H' σ s := by
  have f : Fz (Av G W) (Av (G.bar p) W) H H' := fun a u n e => ⟨fun
    | .inl (.inl z) => n (.inl z)
    | .inl (.inr z) => by rw [z, h] at e; cases e
    | .inr z => n (.inr z), k a u e⟩
  exact {
    len := R.len
    fr := fun a u e t => k a u (R.fr a u e t)
    val := fun i d e => let ⟨v, e1, q⟩ := R.val i d e; ⟨v, e1, q.fz f⟩
    own := fun i d e => let ⟨a, e1, e2, q⟩ := R.own i d e; ⟨a, e1, e2, q.fz f fun u => k a u⟩
    dom := fun i a e => by
      obtain ⟨h1, h2, h3, h4⟩ := R.dom i a e
      refine ⟨h1, h2, ?_, h4⟩
      rintro (z | z)
      · exact h3 z
      · subst z; exact R.free h (.inr (.inl ⟨i, e⟩))
    inj := R.inj
    obj := fun a => fun
      | .inl z => let ⟨u, e, q⟩ := R.obj a z; ⟨u, k a u e, q⟩
      | .inr z => by rw [z]; exact h'
    tow := R.tow.same fun a u _ => k a u
    tnc := R.tnc
    rwc := R.rwc
    noc := R.noc }
theorem vf_fn (F : FnOk X.prog X.w X.K X.mg X.base CX0 k f fd ps (spL (evX X) n g)) (hr : Room k X.A) (hg : Gl X x) (hm : X.mg x = some (.ref f)) (hk : PySem.W.keepIn X.K (.ref f) = true) (hb : Binds X.K fd ps []) (ha : VA X (e :: es) fa) (hdb : (x == ("__debug__" : Str)) = false := by decide +kernel) (ns : NS X e es pos := by exact ⟨rfl, rfl⟩) :
    VF X (.Call (.Name x p) (e :: es) [] pos) (eFn n g fa) := by
  obtain ⟨t, pa, sa⟩ := ha.ex
  refine ⟨_, pe_call F hr hg hm hk hb .nil pass0 pa hdb ns.he ns.hpl, ?_⟩
  intro G W σ H s d s' R hf Q hq
  obtain ⟨xs, h1, h2, h3⟩ := eFn_some hf
  refine sa G W σ H s xs s' R h1 _ fun vs H1 R1 z1 p1 => ?_
  refine ⟨Av G W, xs, d, h2, by rw [List.append_nil]; exact p1, R1.fre, h3, fun q H2 sm hn tp => ?_⟩
  refine hq q H2 (none_back R z1 R1.there hn) (R1.bar sm hn (let ⟨o, e, n, _⟩ := tp.there; ⟨o, e, n⟩)) (fun a u hna he => ?_) (tp.fz (Fz.weak fun a => ?_) fun _ e => e)
  · have e1 := z1 a u hna he
    refine ⟨?_, sm a u e1.2⟩
    rintro ((z | z) | z)
    · exact hna (.inl z)
    · rw [z, hn] at e1; cases e1.2
    · exact hna (.inr z)
  · rintro ((z | z) | z)
    · exact .inl (.inl z)
    · exact .inr z
    · exact .inl (.inr z)
end

/-! ### statements -/
inductive Fl where
  | next | brk | cont | ret (d : D) | retF (d : D)
abbrev Fs := S → Option (Fl × S)
/-- a town is not changed for another -/
def Wk (W W' : Wt) : Prop := ∀ t, W.tn = some t → W'.tn = some t
theorem Wk.refl {W : Wt} : Wk W W := fun _ h => h
theorem Wk.trans {A B C : Wt} (a : Wk A B) (b : Wk B C) : Wk A C := fun t h => b t (a t h)
/-- what a def's end leaves -/
structure Left (E : Ev) (G : Cfg) (W : Wt) (H : Hp) (tw : Option (List Int × Int)) : Prop where
  fr : ∀ a o, G.H0 a = some o → ¬ TownA W.tn a → H a = some o
  tow : TownOk W.tn H tw
def AvR (G : Cfg) (W : Wt) (a : Addr) : Prop := G.O a ∨ TownA W.tn a
def Post (E : Ev) (G : Cfg) (W : Wt) (H : Hp) (Dn : Ends) : Option (Fl × S) → Prop
  | some (.next, s') => ∀ W' σ' H', Rel E G W' H' σ' s' → Fz (Av G W) (Av G W') H H' → Wk W W' → Dn.nx σ' H'
  | some (.brk, s') => ∀ W' σ' H', Rel E G W' H' σ' s' → Fz (Av G W) (Av G W') H H' → Wk W W' → Dn.bk σ' H'
  | some (.cont, s') => ∀ W' σ' H', Rel E G W' H' σ' s' → Fz (Av G W) (Av G W') H H' → Wk W W' → Dn.ct σ' H'
  | some (.ret d, s') => ∀ W' v H', Left E G W' H' s'.tw → Wk W W' → Rep E (AvR G W') H' v d → Dn.rt v H'
  | some (.retF d, s') => ∀ W' p H', Left E G W' H' s'.tw → Wk W W' → G.H0 p = none → ¬ AvR G W' p → Top E (fun a => AvR G W' a ∨ a = p) H' p d → Dn.rt (.ref p) H'
  | none => False
def SndS (E : Ev) (t : TS) (F : Fs) : Prop := ∀ G W σ H s Dn, Rel E G W H σ s → Post E G W H Dn (F s) → t Dn σ H
structure VS (X : Cx) (st : Stmt) (F : Fs) : Prop where
  ex : ∃ t, PS X st t ∧ SndS (evX X) t F
structure VB (X : Cx) (st : List Stmt) (F : Fs) : Prop where
  ex : ∃ t, PSs X st t ∧ SndS (evX X) t F
section
variable {E : Ev} {G : Cfg} {W W' : Wt} {H H' : Hp} {σ σ' : L2.St} {s s' : S} {Dn Dn' : Ends}
theorem Rel.left (R : Rel E G W H σ s) : Left E G W H s.tw := ⟨R.fr, R.tow⟩
/-- from a later place -/
theorem Post.back {r : Option (Fl × S)} (z : Fz (Av G W) (Av G W') H H') (k : Wk W W') (p : Post E G W H Dn r) : Post E G W' H' Dn r := by
  match r, p with
  | some (.next, s'), p => exact fun W2 σ2 H2 r2 z2 k2 => p W2 σ2 H2 r2 (z.trans z2) (k.trans k2)
  | some (.brk, s'), p => exact fun W2 σ2 H2 r2 z2 k2 => p W2 σ2 H2 r2 (z.trans z2) (k.trans k2)
  | some (.cont, s'), p => exact fun W2 σ2 H2 r2 z2 k2 => p W2 σ2 H2 r2 (z.trans z2) (k.trans k2)
  | some (.ret d, s'), p => exact fun W2 v H2 l k2 => p W2 v H2 l (k.trans k2)
  | some (.retF d, s'), p => exact fun W2 v H2 l k2 => p W2 v H2 l (k.trans k2)
  | none, p => exact p
def sSeq (F1 F2 : Fs) : Fs := fun s => match F1 s with
  | some (.next, s1) => F2 s1
  | r => r
theorem snd_seq {t u : TS} {F1 F2 : Fs} (h1 : SndS E t F1) (h2 : SndS E u F2) : SndS E (tSeq t u) (sSeq F1 F2) := by
  intro G W σ H s Dn R p
  refine h1 G W σ H s { Dn with nx := u Dn } R ?_
  unfold sSeq at p
  match e : F1 s, p with
  | some (.next, s1), p =>
    intro W' σ' H' R' z k
    exact h2 G W' σ' H' s1 Dn R' (Post.back z k p)
  | some (.brk, s1), p => exact p
  | some (.cont, s1), p => exact p
  | some (.ret d, s1), p => exact p
  | some (.retF d, s1), p => exact p
  | none, p => exact p
end
section
variable {X : Cx} {st : Stmt} {rest a b : List Stmt} {F F1 F2 : Fs} {f : Fe} {e c : Expr} {pos : Pos}
def sNext : Fs := fun s => some (.next, s)
theorem vb_nil : VB X [] sNext := ⟨_, pss_nil, fun G W σ H s Dn R p => p W σ H R Fz.refl Wk.refl⟩
theorem vb_cons (h1 : VS X st F1) (h2 : VB X rest F2) : VB X (st :: rest) (sSeq F1 F2) := by
  obtain ⟨t, p, sn⟩ := h1.ex
  obtain ⟨u, q, sm⟩ := h2.ex
  exact ⟨_, pss_cons p q, snd_seq sn sm⟩
theorem vb_one (h1 : VS X st F) : VB X [st] F := by
  obtain ⟨t, p, sn⟩ := h1.ex
  exact ⟨_, pss_one p, sn⟩
theorem vs_pass : VS X (.Pass pos) sNext := ⟨_, ps_pass, fun G W σ H s Dn R p => p W σ H R Fz.refl Wk.refl⟩
def sBrk : Fs := fun s => some (.brk, s)
def sCont : Fs := fun s => some (.cont, s)
theorem vs_break : VS X (.Break pos) sBrk := ⟨_, ps_break, fun G W σ H s Dn R p => p W σ H R Fz.refl Wk.refl⟩
theorem vs_continue : VS X (.Continue pos) sCont := ⟨_, ps_continue, fun G W σ H s Dn R p => p W σ H R Fz.refl Wk.refl⟩
def sRet (f : Fe) : Fs := fun s => (f s).map fun (d, s1) => (.ret d, s1)
def sRetF (f : Fe) : Fs := fun s => (f s).map fun (d, s1) => (.retF d, s1)
theorem vs_ret (h : VE X e f) : VS X (.Return (some e) pos) (sRet f) := by
  obtain ⟨t, p, sn⟩ := h.ex
  refine ⟨_, ps_ret p, fun G W σ H s Dn R po => ?_⟩
  unfold sRet at po
  match e : f s, po with
  | none, po => exact po.elim
  | some (d, s1), po =>
    refine sn G W σ H s d s1 R e _ fun v H1 R1 z1 p1 => po W v H1 R1.left Wk.refl (p1.weak fun a z => ?_)
    rcases z with z | z
    · exact .inl z
    · exact .inr (.inr z)
theorem vs_retF (h : VF X e f) : VS X (.Return (some e) pos) (sRetF f) := by
  obtain ⟨t, p, sn⟩ := h.ex
  refine ⟨_, ps_ret p, fun G W σ H s Dn R po => ?_⟩
  unfold sRetF at po
  match e : f s, po with
  | none, po => exact po.elim
  | some (d, s1), po =>
    refine sn G W σ H s d s1 R e _ fun q H1 hn R1 z1 tp => po W q H1 R1.unbar.left Wk.refl (R.fresh0 hn) (fun z => R.free hn ?_) (tp.fz (Fz.weak fun a z => ?_) fun _ e => e)
    · rcases z with z | z
      · exact .inl z
      · exact .inr (.inr z)
    · rcases z with (z | z) | z
      · exact .inl (.inl z)
      · exact .inr (.inr z)
      · exact .inl (.inr z)
theorem vs_retN : VS X (.Return none pos) (sRet (eC .none)) := ⟨_, ps_retN, fun G W σ H s Dn R po => po W .non H R.left Wk.refl .non⟩
/-- return of an own list -/
def sRetO (i : Nat) : Fs := fun s => match s.rho[i]? with
  | some (.own d) => some (.retF d, s)
  | _ => none
theorem vs_retO (i : Nat) {x : Str} {p2 : Pos} (hN : X.N[i]? = some x := by rfl) (hv : Vis X.env.scope x := by first | exact Or.inl rfl | exact Or.inr (Or.inl rfl) | exact Or.inr (Or.inr rfl)) (hd : (x == ("__debug__" : Str)) = false := by decide +kernel)
    (hcd : (x == ("__classdict__" : Str)) = false := by decide +kernel) : VS X (.Return (some (.Name x p2)) pos) (sRetO i) := by
  refine ⟨_, ps_ret (pe_var hN hv hd hcd), fun G W σ H s Dn R po => ?_⟩
  unfold sRetO at po
  split at po
  · rename_i d e
    obtain ⟨a, e1, e2, tp⟩ := R.own i d e
    obtain ⟨h1, h2, h3, _⟩ := R.dom i a e1
    refine ⟨_, e2, po W a H R.left Wk.refl h1 ?_ (tp.fz (Fz.weak fun b z => ?_) fun _ e => e)⟩
    · rintro (z | z)
      · exact h3 z
      · exact h2 z
    · rcases z with (z | z) | z
      · exact .inl z
      · exact .inr (.inr z)
      · exact .inr (.inl ⟨i, by rw [z]; exact e1⟩)
  · exact po.elim
def sIf (c : Fe) (F1 F2 : Fs) : Fs := fun s => (c s).bind fun (x, s1) => match x with
  | .bool true => F1 s1
  | .bool false => F2 s1
  | _ => none
theorem vs_if (hc : VT X c f) (h1 : VB X a F1) (h2 : VB X b F2) : VS X (.If c a b pos) (sIf f F1 F2) := by
  obtain ⟨tc, pc, sc⟩ := hc.ex
  obtain ⟨t, p, sn⟩ := h1.ex
  obtain ⟨u, q, sm⟩ := h2.ex
  refine ⟨_, ps_if pc p q, fun G W σ H s Dn R po => ?_⟩
  unfold sIf at po
  match e : f s, po with
  | none, po => exact po.elim
  | some (.bool true, s1), po =>
    refine sc G W σ H s _ s1 R e _ fun H1 R1 z1 => ?_
    rw [if_pos rfl]
    exact sn G W σ H1 s1 Dn R1 (Post.back z1 Wk.refl po)
  | some (.bool false, s1), po =>
    refine sc G W σ H s _ s1 R e _ fun H1 R1 z1 => ?_
    rw [if_neg Bool.false_ne_true]
    exact sm G W σ H1 s1 Dn R1 (Post.back z1 Wk.refl po)
  | some (.none, s1), po => exact po.elim
  | some (.int _, s1), po => exact po.elim
  | some (.str _, s1), po => exact po.elim
  | some (.list _, s1), po => exact po.elim
  | some (.tuple _, s1), po => exact po.elim
  | some (.dict _, s1), po => exact po.elim
end
end Fx
-- Fx8
namespace Fx
open PySem PySem.Spec L2

/-! ### slots are stored -/
def S.put (s : S) (i : Nat) (c : C) : S := { s with rho := s.rho.set i c }
def Wt.del (W : Wt) (i : Nat) : Wt := { W with ow := fun j => if j = i then none else W.ow j }
def Wt.put (W : Wt) (i : Nat) (p : Addr) : Wt := { W with ow := fun j => if j = i then some p else W.ow j }
section
variable {E : Ev} {G : Cfg} {W : Wt} {H H' : Hp} {σ : L2.St} {s : S} {i : Nat} {v : V} {d : D}
theorem av_del (a : Addr) (h : Av G (W.del i) a) : Av G W a := by
  rcases h with h | ⟨j, h⟩ | h
  · exact .inl h
  · refine .inr (.inl ⟨j, ?_⟩)
    by_cases e : j = i
    · simp [Wt.del, e] at h
    · simpa [Wt.del, e] using h
  · exact .inr (.inr h)
theorem put_get {c c' : C} {j : Nat} (h : (s.put i c).rho[j]? = some c') : (j = i ∧ c' = c ∧ i < s.rho.length) ∨ (j ≠ i ∧ s.rho[j]? = some c') := by
  unfold S.put at h
  by_cases e : j = i
  · subst e
    have hl : j < s.rho.length := by
      by_cases q : j < s.rho.length
      · exact q
      · rw [List.getElem?_eq_none (by simpa using Nat.le_of_not_lt q)] at h; cases h
    simp only [List.getElem?_set_self hl] at h
    cases h
    exact .inl ⟨rfl, rfl, hl⟩
  · simp only [List.getElem?_set_ne (Ne.symm e)] at h
    exact .inr ⟨e, h⟩
theorem set_ne {j : Nat} (h : j ≠ i) : (σ.set i (some v))[j]? = σ[j]? := List.getElem?_set_ne (Ne.symm h)
/-- a slot gets a datum -/
theorem Rel.put (R : Rel E G W H σ s) (r : Rep E (Av G W) H v d) : Rel E G (W.del i) H (σ.set i (some v)) (s.put i (.val d)) where
  len := by simp [S.put, R.len]
  fr := R.fr
  val := fun j d' h => by
    rcases put_get h with ⟨rfl, e, hl⟩ | ⟨hj, h⟩
    · cases e
      exact ⟨v, by rw [R.len] at hl; simp [hl], r.weak av_del⟩
    · obtain ⟨u, e, q⟩ := R.val j d' h
      exact ⟨u, by rw [set_ne hj]; exact e, q.weak av_del⟩
  own := fun j d' h => by
    rcases put_get h with ⟨rfl, e, hl⟩ | ⟨hj, h⟩
    · cases e
    · obtain ⟨a, e1, e2, q⟩ := R.own j d' h
      exact ⟨a, by simpa [Wt.del, hj] using e1, by rw [set_ne hj]; exact e2, q.fz (Fz.weak av_del) fun _ e => e⟩
  dom := fun j a h => by
    by_cases hj : j = i
    · simp [Wt.del, hj] at h
    · have h' : W.ow j = some a := by simpa [Wt.del, hj] using h
      obtain ⟨h1, h2, h3, d', h4⟩ := R.dom j a h'
      exact ⟨h1, h2, h3, d', by simp [S.put, List.getElem?_set_ne (Ne.symm hj), h4]⟩
  inj := fun j k a h1 h2 => by
    by_cases e1 : j = i
    · simp [Wt.del, e1] at h1
    · by_cases e2 : k = i
      · simp [Wt.del, e2] at h2
      · exact R.inj j k a (by simpa [Wt.del, e1] using h1) (by simpa [Wt.del, e2] using h2)
  obj := R.obj
  tow := R.tow
  tnc := fun j h => by
    rcases put_get h with ⟨rfl, e, hl⟩ | ⟨hj, h⟩
    · cases e
    · obtain ⟨tl, rl, e1, e2⟩ := R.tnc j h
      exact ⟨tl, rl, e1, by rw [set_ne hj]; exact e2⟩
  rwc := fun j h => by
    rcases put_get h with ⟨rfl, e, hl⟩ | ⟨hj, h⟩
    · cases e
    · obtain ⟨tl, rl, e1, e2⟩ := R.rwc j h
      exact ⟨tl, rl, e1, by rw [set_ne hj]; exact e2⟩
  noc := fun j h => by
    rcases put_get h with ⟨rfl, e, hl⟩ | ⟨hj, h⟩
    · cases e
    · rw [set_ne hj]; exact R.noc j h
theorem av_put {p : Addr} (a : Addr) (h : Av G (W.put i p) a) : Av (G.bar p) W a := by
  rcases h with h | ⟨j, h⟩ | h
  · exact .inl (.inl h)
  · by_cases e : j = i
    · simp [Wt.put, e] at h
      exact .inl (.inr h.symm)
    · exact .inr (.inl ⟨j, by simpa [Wt.put, e] using h⟩)
  · exact .inr (.inr h)
/-- a slot gets an own object -/
theorem Rel.putF {p : Addr} (R : Rel E (G.bar p) W H σ s) (hi : i < σ.length) (h0 : G.H0 p = none) (hno : ¬ G.O p) (hnt : ¬ TownA W.tn p) (t : Top E (Av (G.bar p) W) H p d) : Rel E G (W.put i p) H (σ.set i (some (.ref p))) (s.put i (.own d)) where
  len := by simp [S.put, R.len]
  fr := R.fr
  val := fun j d' h => by
    rcases put_get h with ⟨rfl, e, hl⟩ | ⟨hj, h⟩
    · cases e
    · obtain ⟨u, e, q⟩ := R.val j d' h
      exact ⟨u, by rw [set_ne hj]; exact e, q.weak av_put⟩
  own := fun j d' h => by
    rcases put_get h with ⟨rfl, e, hl⟩ | ⟨hj, h⟩
    · cases e
      exact ⟨p, by simp [Wt.put], by simp [hi], t.fz (Fz.weak av_put) fun _ e => e⟩
    · obtain ⟨a, e1, e2, q⟩ := R.own j d' h
      exact ⟨a, by simpa [Wt.put, hj] using e1, by rw [set_ne hj]; exact e2, q.fz (Fz.weak av_put) fun _ e => e⟩
  dom := fun j a h => by
    by_cases hj : j = i
    · subst hj
      have e : p = a := by simpa [Wt.put] using h
      subst e
      exact ⟨h0, hnt, hno, d, by
        have : j < s.rho.length := by rw [R.len]; exact hi
        simp [S.put, this]⟩
    · have h' : W.ow j = some a := by simpa [Wt.put, hj] using h
      obtain ⟨h1, h2, h3, d', h4⟩ := R.dom j a h'
      exact ⟨h1, h2, fun z => h3 (.inl z), d', by simp [S.put, List.getElem?_set_ne (Ne.symm hj), h4]⟩
  inj := fun j k a h1 h2 => by
    have ne : ∀ l, W.ow l ≠ some p := fun l e => (R.dom l p e).2.2.1 (.inr rfl)
    by_cases e1 : j = i
    · by_cases e2 : k = i
      · rw [e1, e2]
      · have q : p = a := by simpa [Wt.put, e1] using h1
        subst q
        exact absurd (by simpa [Wt.put, e2] using h2) (ne k)
    · by_cases e2 : k = i
      · have q : p = a := by simpa [Wt.put, e2] using h2
        subst q
        exact absurd (by simpa [Wt.put, e1] using h1) (ne j)
      · exact R.inj j k a (by simpa [Wt.put, e1] using h1) (by simpa [Wt.put, e2] using h2)
  obj := fun a h => R.obj a (.inl h)
  tow := R.tow
  tnc := fun j h => by
    rcases put_get h with ⟨rfl, e, hl⟩ | ⟨hj, h⟩
    · cases e
    · obtain ⟨tl, rl, e1, e2⟩ := R.tnc j h
      exact ⟨tl, rl, e1, by rw [set_ne hj]; exact e2⟩
  rwc := fun j h => by
    rcases put_get h with ⟨rfl, e, hl⟩ | ⟨hj, h⟩
    · cases e
    · obtain ⟨tl, rl, e1, e2⟩ := R.rwc j h
      exact ⟨tl, rl, e1, by rw [set_ne hj]; exact e2⟩
  noc := fun j h => by
    rcases put_get h with ⟨rfl, e, hl⟩ | ⟨hj, h⟩
    · cases e
    · rw [set_ne hj]; exact R.noc j h
/-- an own object is changed -/
theorem Rel.turn {a : Addr} {o : HO} {d' : D} (R : Rel E G W H σ s) (hs : s.rho[i]? = some (.own d)) (hw : W.ow i = some a) (t : Top E (Av G W) (upd H a o) a d') : Rel E G W (upd H a o) σ (s.put i (.own d')) := by
  have av : Av G W a := .inr (.inl ⟨i, hw⟩)
  have fz : Fz (Av G W) (Av G W) H (upd H a o) := fun b u n e => ⟨n, by rw [upd_ne (fun z => n (by rw [z]; exact av))]; exact e⟩
  obtain ⟨d0, d1, d2, _⟩ := R.dom i a hw
  have hi : i < s.rho.length := (List.getElem?_eq_some_iff.mp hs).1
  exact {
    len := by simp [S.put, R.len]
    fr := fun b u e t => by
      rw [upd_ne (fun z => by rw [z, d0] at e; cases e)]
      exact R.fr b u e t
    val := fun j d'' h => by
      rcases put_get h with ⟨rfl, e, hl⟩ | ⟨hj, h⟩
      · cases e
      · obtain ⟨u, e, q⟩ := R.val j d'' h
        exact ⟨u, e, q.fz fz⟩
    own := fun j d'' h => by
      rcases put_get h with ⟨rfl, e, hl⟩ | ⟨hj, h⟩
      · cases e
        obtain ⟨b, e1, e2, _⟩ := R.own _ d hs
        rw [hw] at e1; cases e1
        exact ⟨a, hw, e2, t⟩
      · obtain ⟨b, e1, e2, q⟩ := R.own j d'' h
        refine ⟨b, e1, e2, q.fz fz fun u e => ?_⟩
        rw [upd_ne (fun z => hj (R.inj j i a (by rw [← z]; exact e1) hw))]
        exact e
    dom := fun j b h => by
      obtain ⟨h1, h2, h3, d'', h4⟩ := R.dom j b h
      refine ⟨h1, h2, h3, ?_⟩
      by_cases hj : j = i
      · subst hj
        exact ⟨d', by simp [S.put, hi]⟩
      · exact ⟨d'', by simp [S.put, List.getElem?_set_ne (Ne.symm hj), h4]⟩
    inj := R.inj
    obj := fun b h => by
      by_cases e : b = a
      · rw [e] at h; exact absurd h d2
      · rw [upd_ne e]; exact R.obj b h
    tow := R.tow.same fun b u h e => by
      rw [upd_ne (fun z => d1 (by rw [← z]; exact h))]
      exact e
    tnc := fun j h => by
      rcases put_get h with ⟨rfl, e, hl⟩ | ⟨hj, h⟩
      · cases e
      · exact R.tnc j h
    rwc := fun j h => by
      rcases put_get h with ⟨rfl, e, hl⟩ | ⟨hj, h⟩
      · cases e
      · exact R.rwc j h
    noc := fun j h => by
      rcases put_get h with ⟨rfl, e, hl⟩ | ⟨hj, h⟩
      · cases e
      · exact R.noc j h }
theorem Fz.turn {a : Addr} {o : HO} (hw : Av G W a) : Fz (Av G W) (Av G W) H (upd H a o) := fun b u n e => ⟨n, by rw [upd_ne (fun z => n (by rw [z]; exact hw))]; exact e⟩
theorem fz_del : Fz (Av G W) (Av G (W.del i)) H H := Fz.weak av_del
theorem wk_del : Wk W (W.del i) := fun _ h => h
theorem wk_put {p : Addr} : Wk W (W.put i p) := fun _ h => h
end
/-! ### assignments -/
def sSet (i : Nat) (f : Fe) : Fs := fun s => (f s).map fun (d, s1) => (.next, s1.put i (.val d))
def sSetF (i : Nat) (f : Fe) : Fs := fun s => (f s).bind fun (d, s1) => if i < s1.rho.length then some (.next, s1.put i (.own d)) else none
theorem snd_set {E : Ev} {t : TE} {f : Fe} {i : Nat} (h : SndE E t f) : SndS E (tAsg t (gName i)) (sSet i f) := by
  intro G W σ H s Dn R po
  unfold sSet at po
  match e : f s, po with
  | none, po => exact po.elim
  | some (d, s1), po => exact h G W σ H s d s1 R e _ fun v H1 R1 z1 p1 => po _ _ H1 (R1.put p1) (z1.trans fz_del) wk_del
theorem snd_setF {E : Ev} {t : TE} {f : Fe} {i : Nat} (h : SndF E t f) : SndS E (tAsg t (gName i)) (sSetF i f) := by
  intro G W σ H s Dn R po
  unfold sSetF at po
  match e : f s, po with
  | none, po => exact po.elim
  | some (d, s1), po =>
    dsimp only [Option.bind] at po
    split at po
    · rename_i hi
      refine h G W σ H s d s1 R e _ fun p H1 hn R1 z1 t1 => po _ _ H1 (R1.putF (by rw [← R1.len]; exact hi) (R.fresh0 hn) (fun z => R.free hn (.inl z)) (fun z => R.free hn (.inr (.inr z))) t1) ?_ wk_put
      exact fun a u n e => ⟨fun z => (z1 a u n e).1 (av_put a z), (z1 a u n e).2⟩
    · exact po.elim
section
variable {X : Cx} {i : Nat} {x : Str} {e : Expr} {f : Fe} {pos p' : Pos}
theorem vs_set (h : VE X e f) (hN : X.N.Nodup) (hi : X.N[i]? = some x := by rfl) (hx : Loc X.env.scope x := by first | exact Or.inl rfl | exact Or.inr rfl) (hs : swapsWith e (some (.Name x p')) pos.line X.env = pure false := by rfl) (hf : X.fn x = true ∨ X.env.scope.names.lookup x = some .local := by first | exact .inl rfl | exact .inr rfl) :
    VS X (.Assign [.Name x p'] e pos) (sSet i f) := by
  obtain ⟨t, p, sn⟩ := h.ex
  exact ⟨_, ps_set hN hi hx p hs hf, snd_set sn⟩
theorem vs_setF (h : VF X e f) (hN : X.N.Nodup) (hi : X.N[i]? = some x := by rfl) (hx : Loc X.env.scope x := by first | exact Or.inl rfl | exact Or.inr rfl) (hs : swapsWith e (some (.Name x p')) pos.line X.env = pure false := by rfl) (hf : X.fn x = true ∨ X.env.scope.names.lookup x = some .local := by first | exact .inl rfl | exact .inr rfl) :
    VS X (.Assign [.Name x p'] e pos) (sSetF i f) := by
  obtain ⟨t, p, sn⟩ := h.ex
  exact ⟨_, ps_set hN hi hx p hs hf, snd_setF sn⟩
/-- an expression alone -/
def sExpr (f : Fe) : Fs := fun s => (f s).map fun (_, s1) => (.next, s1)
theorem vs_expr (h : VE X e f) (hs : swapsWith e none pos.line X.env = pure false := by rfl) : VS X (.Expr e pos) (sExpr f) := by
  obtain ⟨t, p, sn⟩ := h.ex
  refine ⟨_, ps_expr p hs, fun G W σ H s Dn R po => ?_⟩
  unfold sExpr at po
  match e : f s, po with
  | none, po => exact po.elim
  | some (d, s1), po => exact sn G W σ H s d s1 R e _ fun v H1 R1 z1 p1 => po W σ H1 R1 z1 Wk.refl
/-- x op= e, of a number -/
def sAug (i : Nat) (g : D → D → Option D) (f : Fe) : Fs := fun s => match s.rho[i]? with
  | some (.val d) => (f s).bind fun (y, s1) => (g d y).map fun z => (.next, s1.put i (.val z))
  | _ => none
def addI : D → D → Option D := intD fun a b => some (.int (a + b))
theorem vs_augI (h : VE X e f) (hN : X.N.Nodup) (hi : X.N[i]? = some x := by rfl) (hx : Loc X.env.scope x := by first | exact Or.inl rfl | exact Or.inr rfl) (hf : X.fn x = true ∨ X.env.scope.names.lookup x = some .local := by first | exact .inl rfl | exact .inr rfl) :
    VS X (.AugAssign (.Name x p') .Add e pos) (sAug i addI f) := by
  obtain ⟨t, p, sn⟩ := h.ex
  refine ⟨_, ps_aug hN hi hx p ip_add hf, fun G W σ H s Dn R po => ?_⟩
  unfold sAug at po
  split at po
  · rename_i d e1
    obtain ⟨v, e2, r⟩ := R.val i d e1
    match e : f s, po with
    | none, po => exact po.elim
    | some (y, s1), po =>
      dsimp only [Option.bind] at po
      refine ⟨v, e2, sn G W σ H s y s1 R e _ fun u H1 R1 z1 p1 => ?_⟩
      cases r <;> cases p1 <;> simp only [addI, intD] at po
      all_goals first | (exact po.elim) | skip
      exact ⟨_, _, rfl, rfl, po _ _ H1 (R1.put (.int _)) (z1.trans fz_del) wk_del⟩
  · exact po.elim
/-! ### own lists -/
/-- the own object in slot i is held from now on: a datum -/
def S.frz (s : S) (i : Nat) : Option S := match s.rho[i]? with
  | some (.own d) => some (s.put i (.val d))
  | _ => none
theorem set_self {σ : L2.St} {i : Nat} {v : V} (h : σ[i]? = some (some v)) : σ.set i (some v) = σ := by
  apply List.ext_getElem?
  intro j
  by_cases e : j = i
  · subst e
    have hl : j < σ.length := (List.getElem?_eq_some_iff.mp h).1
    rw [List.getElem?_set_self hl, h]
  · rw [List.getElem?_set_ne (Ne.symm e)]
theorem Lkd.ne {H H' : Hp} {a b : Addr} {d : D} {u : HO} (l : Lkd H a H' d) (hb : b ≠ a) (e : H b = some u) : H' b = some u := by
  cases d with
  | list ds => cases (show H' = H from l); exact e
  | dict kvs => obtain ⟨o, v, _, _, rfl⟩ := l; rw [upd_ne hb]; exact e
  | _ => exact l.elim
theorem Rel.freeze {E : Ev} {G : Cfg} {W : Wt} {H H' : Hp} {σ : L2.St} {s : S} {d : D} {a : Addr} (R : Rel E G W H σ s) (h : s.rho[i]? = some (.own d)) (e1 : W.ow i = some a) (l : Lkd H a H' d) : Rel E G (W.del i) H' σ (s.put i (.val d)) ∧ Fz (Av G W) (Av G (W.del i)) H H' := by
  obtain ⟨a', e1', e2, t⟩ := R.own i d h
  rw [e1] at e1'; cases e1'
  obtain ⟨d0, d1, d2, _⟩ := R.dom i a e1
  have na : ¬ Av G (W.del i) a := by
    rintro (z | ⟨j, z⟩ | z)
    · exact d2 z
    · by_cases e : j = i
      · simp [Wt.del, e] at z
      · exact e (R.inj j i a (by simpa [Wt.del, e] using z) e1)
    · exact d1 z
  have av : Av G W a := .inr (.inl ⟨i, e1⟩)
  have f : Fz (Av G W) (Av G (W.del i)) H H' := fun b u n e => ⟨fun z => n (av_del b z), l.ne (fun z => n (by rw [z]; exact av)) e⟩
  refine ⟨?_, f⟩
  have R' : Rel E G (W.del i) H' (σ.set i (some (.ref a))) (s.put i (.val d)) := {
    len := by simp [S.put, R.len]
    fr := fun b u e t => l.ne (fun z => by rw [z, d0] at e; cases e) (R.fr b u e t)
    val := fun j d' h => by
      rcases put_get h with ⟨rfl, e, hl⟩ | ⟨hj, h⟩
      · cases e
        exact ⟨_, by rw [R.len] at hl; simp only [List.getElem?_set_self hl], t.lock na (fun x z => av_del x z) av l⟩
      · obtain ⟨u, e, q⟩ := R.val j d' h
        exact ⟨u, by rw [set_ne hj]; exact e, q.fz f⟩
    own := fun j d' h => by
      rcases put_get h with ⟨rfl, e, hl⟩ | ⟨hj, h⟩
      · cases e
      · obtain ⟨b, e3, e4, q⟩ := R.own j d' h
        exact ⟨b, by simpa [Wt.del, hj] using e3, by rw [set_ne hj]; exact e4, q.fz f fun u e => l.ne (fun z => hj (R.inj j i a (by rw [← z]; exact e3) e1)) e⟩
    dom := fun j a h => by
      by_cases hj : j = i
      · simp [Wt.del, hj] at h
      · have h' : W.ow j = some a := by simpa [Wt.del, hj] using h
        obtain ⟨h1, h2, h3, d', h4⟩ := R.dom j a h'
        exact ⟨h1, h2, h3, d', by simp [S.put, List.getElem?_set_ne (Ne.symm hj), h4]⟩
    inj := fun j k a h1 h2 => by
      by_cases e1 : j = i
      · simp [Wt.del, e1] at h1
      · by_cases e2 : k = i
        · simp [Wt.del, e2] at h2
        · exact R.inj j k a (by simpa [Wt.del, e1] using h1) (by simpa [Wt.del, e2] using h2)
    obj := fun b h => by
      obtain ⟨o, e, n⟩ := R.obj b h
      exact ⟨o, l.ne (fun z => d2 (by rw [← z]; exact h)) e, n⟩
    tow := R.tow.same fun b u h e => l.ne (fun z => d1 (by rw [← z]; exact h)) e
    tnc := fun j h => by
      rcases put_get h with ⟨rfl, e, hl⟩ | ⟨hj, h⟩
      · cases e
      · obtain ⟨tl, rl, e1, e2⟩ := R.tnc j h
        exact ⟨tl, rl, e1, by rw [set_ne hj]; exact e2⟩
    rwc := fun j h => by
      rcases put_get h with ⟨rfl, e, hl⟩ | ⟨hj, h⟩
      · cases e
      · obtain ⟨tl, rl, e1, e2⟩ := R.rwc j h
        exact ⟨tl, rl, e1, by rw [set_ne hj]; exact e2⟩
    noc := fun j h => by
      rcases put_get h with ⟨rfl, e, hl⟩ | ⟨hj, h⟩
      · cases e
      · rw [set_ne hj]; exact R.noc j h }
  rw [set_self e2] at R'
  exact R'
def sFrz (i : Nat) (F : Fs) : Fs := fun s => (s.frz i).bind F
/-- a thing may be locked first -/
def tLks (t : TS) : TS := fun Dn σ H => t Dn σ H ∨ ∃ a u, H a = some u ∧ Mut (some u) ∧ ∀ o, t Dn σ (upd H a (.frz o u))
theorem ps_lks {st : Stmt} {t : TS} (h : PS X st t) : PS X st (tLks t) := by
  refine ⟨fun pins s σ H Dn I q => ?_⟩
  rcases q with q | ⟨a, u, e, mu, q⟩
  · exact h.run pins s σ H Dn I q
  · obtain ⟨od, I2⟩ := I.lock e mu
    exact h.run pins s σ _ Dn I2 (q od)
theorem vs_frz (i : Nat) {st : Stmt} {F : Fs} (h : VS X st F) : VS X st (sFrz i F) := by
  obtain ⟨t, p, sn⟩ := h.ex
  refine ⟨_, ps_lks p, fun G W σ H s Dn R po => ?_⟩
  unfold sFrz S.frz at po
  split at po
  · rename_i d e
    obtain ⟨a, e1, _, tp⟩ := R.own i d e
    obtain ⟨u, e2, _, mu⟩ := tp.there
    have fin : ∀ H', Lkd H a H' d → t Dn σ H' := fun H' l => by
      obtain ⟨R', z⟩ := R.freeze e e1 l
      exact sn G (W.del i) σ H' _ Dn R' (Post.back z wk_del po)
    cases d with
    | list ds => exact .inl (fin H rfl)
    | dict kvs => exact .inr ⟨a, u, e2, mu, fun o => fin _ ⟨o, u, e2, mu, rfl⟩⟩
    | _ => exact tp.elim
  · exact po.elim
theorem line_lt {n : Nat} (h : n < 100000) : n < sizeLine := Nat.lt_of_lt_of_le h (by decide)
theorem own_there {E : Ev} {G : Cfg} {W : Wt} {H H1 : Hp} {σ : L2.St} {s s1 : S} {d : D} (R : Rel E G W H σ s) (R1 : Rel E G W H1 σ s1) (h : s1.rho[i]? = some (.own d)) : ∃ a d0, W.ow i = some a ∧ σ[i]? = some (some (.ref a)) ∧ s.rho[i]? = some (.own d0) ∧ Top E (Av G W) H a d0 ∧ Top E (Av G W) H1 a d := by
  obtain ⟨a, e1, e2, t⟩ := R1.own i d h
  obtain ⟨_, _, _, d0, h0⟩ := R.dom i a e1
  obtain ⟨b, e3, e4, t0⟩ := R.own i d0 h0
  rw [e1] at e3; cases e3
  exact ⟨a, d0, e1, e2, h0, t0, t⟩
theorem ty_list {E : Ev} {A : Addr → Prop} {H : Hp} {a : Addr} {ds : List D} (t : Top E A H a (.list ds)) : tyV E.K "list" (.ref a) H := by
  obtain ⟨xs, e, _⟩ := t
  exact .inl ⟨rfl, _, SqL.of e⟩
end
end Fx
-- Fx9
namespace Fx
open PySem PySem.Spec L2
def S.ownL (s : S) (i : Nat) : Option (List D) := match s.rho[i]? with
  | some (.own (.list ds)) => some ds
  | _ => none
theorem ownL_some {s : S} {i : Nat} {ds : List D} (h : s.ownL i = some ds) : s.rho[i]? = some (.own (.list ds)) := by
  unfold S.ownL at h
  split at h
  · rename_i e; cases h; exact e
  · cases h
section
variable {X : Cx} {i : Nat} {x : Str} {e a b : Expr} {f f1 f2 : Fe} {pos p' q' : Pos}
structure NM (X : Cx) (o : Expr) (name : Str) (e : Expr) (es : List Expr) (apos cpos : Pos) : Prop where
  hbase : attributeBase o name X.env (eval o X.env) = eval o X.env
  hfew : ((backTo cpos (starEach (e :: es) X.env)).all (fun x => !x.1) && (backToKw cpos (keywordEach [] X.env)).all (fun x => x.1.isSome)
      && decide ((e :: es).length + ([] : List Keyword).length + (if ([] : List Keyword).isEmpty then 0 else 1) < 30)) = true
  hline : (apos.endLine == cpos.line) = true
  hs : starEach (e :: es) X.env = (false, eval e X.env) :: starEach es X.env
  hplain : (backTo cpos (starEach es X.env)).any (·.1) = false
/-- a name of the def that is read -/
structure NV (X : Cx) (i : Nat) (x : Str) : Prop where
  hN : X.N[i]? = some x
  hv : Vis X.env.scope x
  hd : (x == ("__debug__" : Str)) = false
  hcd : (x == ("__classdict__" : Str)) = false
/-- xs.append(e) -/
def sApp (i : Nat) (f : Fe) : Fs := fun s => (s.ownL i).bind fun _ => (f s).bind fun (d, s1) => (s1.ownL i).bind fun ds => if ds.length < 100000 then some (.next, s1.put i (.own (.list (ds ++ [d])))) else none
theorem vs_app (i : Nat) (nv : NV X i x) (h : VE X e f) (nm : NM X (.Name x p') "append" e [] pos q') (hs : swapsWith (.Call (.Attribute (.Name x p') "append" pos) [e] [] q') none q'.line X.env = pure false) : VS X (.Expr (.Call (.Attribute (.Name x p') "append" pos) [e] [] q') q') (sApp i f) := by
  obtain ⟨t, p, sn⟩ := h.ex
  refine ⟨_, ps_expr (pe_bm PySem.F.plainAttrs_list PySem.F.slot_list_append PySem.F.type_list_append mt_append (pe_var nv.hN nv.hv nv.hd nv.hcd) (pa_cons p pa_nil nm.hs) nm.hbase nm.hfew nm.hline nm.hs nm.hplain) hs, fun G W σ H s Dn R po => ?_⟩
  unfold sApp at po
  match e0 : s.ownL i, po with
  | none, po => exact po.elim
  | some ds0, po =>
    dsimp only [Option.bind] at po
    match e1 : f s, po with
    | none, po => exact po.elim
    | some (d, s1), po =>
      dsimp only [Option.bind] at po
      match e2 : s1.ownL i, po with
      | none, po => exact po.elim
      | some ds, po =>
        dsimp only [Option.bind] at po
        split at po
        · rename_i hl
          obtain ⟨a, w1, w2, t0⟩ := R.own i _ (ownL_some e0)
          refine ⟨_, w2, ty_list t0, sn G W σ H s d s1 R e1 _ fun v H1 R1 z1 p1 => ?_⟩
          obtain ⟨a', w1', w2', xs, hx, hr⟩ := R1.own i _ (ownL_some e2)
          rw [w1] at w1'; cases w1'
          refine ⟨a, xs, v, rfl, rfl, hx, line_lt (by rw [hr.length]; exact hl), ?_⟩
          have av : Av G W a := .inr (.inl ⟨i, w1⟩)
          exact po W σ _ (R1.turn (ownL_some e2) w1 ⟨_, upd_same, (hr.append (.cons p1 .nil)).fz (Fz.turn av)⟩) (z1.trans (Fz.turn av)) Wk.refl
        · exact po.elim
/-- xs += e, an own list -/
def sExt (i : Nat) (f : Fe) : Fs := fun s => (s.ownL i).bind fun _ => (f s).bind fun (d, s1) => (s1.ownL i).bind fun ds => match d with
  | .list es => if ds.length + es.length ≤ 100000 then some (.next, s1.put i (.own (.list (ds ++ es)))) else none
  | _ => none
theorem vs_ext (i : Nat) (h : VE X e f) (hN : X.N.Nodup) (hi : X.N[i]? = some x := by rfl) (hx : Loc X.env.scope x := by first | exact Or.inl rfl | exact Or.inr rfl) (hf : X.fn x = true ∨ X.env.scope.names.lookup x = some .local := by first | exact .inl rfl | exact .inr rfl) :
    VS X (.AugAssign (.Name x p') .Add e pos) (sExt i f) := by
  obtain ⟨t, p, sn⟩ := h.ex
  refine ⟨_, ps_aug hN hi hx p (ti := rExt2) (fun pins s σ H x y v u Q I r1 r2 h => iop_ext pins s σ H x y v u Q I r1 r2 h) hf, fun G W σ H s Dn R po => ?_⟩
  unfold sExt at po
  match e0 : s.ownL i, po with
  | none, po => exact po.elim
  | some ds0, po =>
    dsimp only [Option.bind] at po
    match e1 : f s, po with
    | none, po => exact po.elim
    | some (d, s1), po =>
      dsimp only [Option.bind] at po
      match e2 : s1.ownL i, po with
      | none, po => exact po.elim
      | some ds, po =>
        dsimp only [Option.bind] at po
        split at po
        · split at po
          · rename_i es hl
            obtain ⟨a, w1, w2, t0⟩ := R.own i _ (ownL_some e0)
            refine ⟨_, w2, sn G W σ H s _ s1 R e1 _ fun v H1 R1 z1 p1 => ?_⟩
            obtain ⟨a', w1', w2', xs, hx, hr⟩ := R1.own i _ (ownL_some e2)
            rw [w1] at w1'; cases w1'
            cases p1 with
            | lst n1 h1 r1 =>
              rename_i b ys
              refine ⟨a, b, xs, ys, rfl, rfl, hx, h1, Nat.le_trans (by rw [hr.length, r1.length]; exact hl) (by decide), ?_⟩
              have av : Av G W a := .inr (.inl ⟨i, w1⟩)
              show Dn.nx (σ.set i (some (.ref a))) _
              rw [set_self w2]
              exact po W σ _ (R1.turn (ownL_some e2) w1 ⟨_, upd_same, (hr.append r1).fz (Fz.turn av)⟩) (z1.trans (Fz.turn av)) Wk.refl
          · exact po.elim
        · exact po.elim
/-- what is read off an own list: no object -/
def eOwnS (i : Nat) (g : D → Option D) : Fe := fun s => match s.rho[i]? with
  | some (.own d) => (g d).map fun z => (z, s)
  | _ => none
/-- the own object as a datum, the others barred -/
theorem Rel.asRep {E : Ev} {G : Cfg} {W : Wt} {H : Hp} {σ : L2.St} {s : S} {d : D} {a : Addr} (R : Rel E G W H σ s) (h : s.rho[i]? = some (.own d)) (hw : W.ow i = some a) (hd : ∃ ds, d = .list ds) : Rep E (Av G (W.del i)) H (.ref a) d := by
  obtain ⟨ds, rfl⟩ := hd
  obtain ⟨a', e1, e2, t⟩ := R.own i _ h
  rw [hw] at e1; cases e1
  refine t.rep ?_ fun x z => av_del x z
  rintro (z | ⟨j, z⟩ | z)
  · exact (R.dom i a hw).2.2.1 z
  · by_cases e : j = i
    · simp [Wt.del, e] at z
    · exact e (R.inj j i a (by simpa [Wt.del, e] using z) hw)
  · exact (R.dom i a hw).2.1 z
/-- len(xs) -/
def len1 (d : D) : Option D := lenD [d]
theorem ve_lenO (i : Nat) (nv : NV X i x) (hg : Gl X "len") (hm : X.mg "len" = none) (ns : NS X (.Name x p') [] pos) : VE X (.Call (.Name "len" q') [.Name x p'] [] pos) (eOwnS i len1) := by
  refine ⟨_, pe_callB call_len_seq hg hm PySem.boot_len (pa_cons (pe_var nv.hN nv.hv nv.hd nv.hcd) pa_nil ns.he) (by decide) (by decide) ns.he ns.hpl, ?_⟩
  intro G W σ H s d s' R hf Q hq
  unfold eOwnS at hf
  split at hf
  · rename_i d' e
    simp only [Option.map_eq_some_iff] at hf
    obtain ⟨z, h1, h2⟩ := hf
    cases h2
    obtain ⟨a, w1, w2, t⟩ := R.own i _ e
    refine ⟨_, w2, ?_⟩
    cases d' with
    | list ds =>
      obtain ⟨xs, hx, hr⟩ := t
      cases h1
      exact ⟨a, xs, rfl, .inl (SqL.of hx), by rw [hr.length]; exact hq _ H R Fz.refl (.int _)⟩
    | dict _ => cases h1
    | _ => exact t.elim
  · cases hf
/-- xs[e], an own list -/
def eIxO (i : Nat) (f : Fe) : Fe := fun s => (s.ownL i).bind fun _ => (f s).bind fun (y, s1) => (s1.ownL i).bind fun ds => (ixD (.list ds) y).map fun z => (z, s1)
theorem ve_ixO (i : Nat) (nv : NV X i x) (hb : VE X b f) (hs : PlainIx b := by exact fun _ _ => rfl) : VE X (.Subscript (.Name x p') b pos) (eIxO i f) := by
  obtain ⟨t, p, sn⟩ := hb.ex
  refine ⟨_, pe_ix ix_list (pe_var nv.hN nv.hv nv.hd nv.hcd) p hs, ?_⟩
  intro G W σ H s d s' R hf Q hq
  unfold eIxO at hf
  simp only [Option.bind_eq_some_iff, Option.map_eq_some_iff] at hf
  obtain ⟨ds0, e0, ⟨y, s1⟩, e1, ds, e2, z, e3, e4⟩ := hf
  cases e4
  obtain ⟨a, w1, w2, t0⟩ := R.own i _ (ownL_some e0)
  refine ⟨_, w2, sn G W σ H s y _ R e1 _ fun v H1 R1 z1 p1 => ?_⟩
  obtain ⟨a', w1', w2', xs, hx, hr⟩ := R1.own i _ (ownL_some e2)
  rw [w1] at w1'; cases w1'
  cases p1 <;> simp only [ixD] at e3
  all_goals first | (cases e3; done) | skip
  obtain ⟨u, h1, h2⟩ := hr.atI e3
  exact ⟨a, xs, _, u, rfl, rfl, SqL.of hx, h1, hq u H1 R1 z1 h2⟩
/-- a comparison whose left side is an own object, its value no object -/
def S.ownD (s : S) (i : Nat) : Option D := match s.rho[i]? with
  | some (.own (.list ds)) => some (.list ds)
  | _ => none
theorem ownD_list {s : S} {d : D} (h : s.ownD i = some d) : ∃ ds, d = .list ds := by
  unfold S.ownD at h
  split at h
  · cases h; exact ⟨_, rfl⟩
  · cases h
theorem ownD_some {s : S} {d : D} (h : s.ownD i = some d) : s.rho[i]? = some (.own d) := by
  unfold S.ownD at h
  split at h
  · rename_i e; cases h; exact e
  · cases h
def eCmpO (i : Nat) (g : D → D → Option D) (f : Fe) : Fe := fun s => (s.ownD i).bind fun _ => (f s).bind fun (y, s1) => (s1.ownD i).bind fun d => (g d y).map fun z => (z, s1)
theorem snd_cmpO {E : Ev} {r : R2} {g : D → D → Option D} {t : TE} (sn : SndE E t f) (hr : SndRS E r g) : SndE E (tOp r (tVar i) t) (eCmpO i g f) := by
  intro G W σ H s d s' R hf Q hq
  unfold eCmpO at hf
  simp only [Option.bind_eq_some_iff, Option.map_eq_some_iff] at hf
  obtain ⟨d0, e0, ⟨y, s1⟩, e1, d1, e2, z, e3, e4⟩ := hf
  cases e4
  obtain ⟨a, w1, w2, t0⟩ := R.own i _ (ownD_some e0)
  refine ⟨_, w2, sn G W σ H s y _ R e1 _ fun v H1 R1 z1 p1 => ?_⟩
  exact hr _ H1 (.ref a) v d1 y d (R1.asRep (ownD_some e2) w1 (ownD_list e2)) (p1.weak fun x z => av_del x z) e3 _ fun u hu => hq u H1 R1 z1 (hu _ _)
/-- .. whose right side is an own object -/
def eCmpR (i : Nat) (g : D → D → Option D) (f : Fe) : Fe := fun s => (f s).bind fun (y, s1) => (s1.ownD i).bind fun d => (g y d).map fun z => (z, s1)
theorem snd_cmpR {E : Ev} {r : R2} {g : D → D → Option D} {t : TE} (sn : SndE E t f) (hr : SndRS E r g) : SndE E (tOp r t (tVar i)) (eCmpR i g f) := by
  intro G W σ H s d s' R hf Q hq
  unfold eCmpR at hf
  simp only [Option.bind_eq_some_iff, Option.map_eq_some_iff] at hf
  obtain ⟨⟨y, s1⟩, e1, d1, e2, z, e3, e4⟩ := hf
  cases e4
  refine sn G W σ H s y _ R e1 _ fun v H1 R1 z1 p1 => ?_
  obtain ⟨a, w1, w2, t0⟩ := R1.own i _ (ownD_some e2)
  exact ⟨_, w2, hr _ H1 v (.ref a) y d1 d (p1.weak fun x z => av_del x z) (R1.asRep (ownD_some e2) w1 (ownD_list e2)) e3 _ fun u hu => hq u H1 R1 z1 (hu _ _)⟩
theorem vt_eqO (i : Nat) (nv : NV X i x) (hu : X.A.units + 64 < cLine) (hb : VE X b f) : VT X (.Compare (.Name x p') [.Eq] [b] pos) (eCmpO i eqD f) := by
  obtain ⟨t, p, sn⟩ := hb.ex
  exact ⟨_, pt_cmpR (op_eqD hu) (pe_var nv.hN nv.hv nv.hd nv.hcd) p (nomark _), snd_test (snd_cmpO sn sr_eq)⟩
theorem vt_neO (i : Nat) (nv : NV X i x) (hu : X.A.units + 64 < cLine) (hb : VE X b f) : VT X (.Compare (.Name x p') [.NotEq] [b] pos) (eCmpO i neD f) := by
  obtain ⟨t, p, sn⟩ := hb.ex
  exact ⟨_, pt_cmpR (op_neD hu) (pe_var nv.hN nv.hv nv.hd nv.hcd) p (nomark _), snd_test (snd_cmpO sn sr_ne)⟩
theorem vt_inO (i : Nat) (nv : NV X i x) (hu : X.A.units + 65 < cLine) (hb : VE X b f) (hm : behindInMarks .In (.Name x p') = false := by rfl) : VT X (.Compare b [.In] [.Name x p'] pos) (eCmpR i inD f) := by
  obtain ⟨t, p, sn⟩ := hb.ex
  exact ⟨_, pt_cmpR ((op_inD hu).or (op_inU hu)) p (pe_var nv.hN nv.hv nv.hd nv.hcd) hm, snd_test (snd_cmpR sn sr_in)⟩
theorem vt_notInO (i : Nat) (nv : NV X i x) (hu : X.A.units + 65 < cLine) (hb : VE X b f) (hm : behindInMarks .NotIn (.Name x p') = false := by rfl) : VT X (.Compare b [.NotIn] [.Name x p'] pos) (eCmpR i notInD f) := by
  obtain ⟨t, p, sn⟩ := hb.ex
  exact ⟨_, pt_cmpR ((op_notInD hu).or (op_notInU hu)) p (pe_var nv.hN nv.hv nv.hd nv.hcd) hm, snd_test (snd_cmpR sn sr_notIn)⟩
end
/-! ### targets -/
abbrev Fg := D → S → Option S
def SndG (E : Ev) (t : TG) (g : Fg) : Prop := ∀ G W σ H s v d s', Rel E G W H σ s → Rep E (Av G W) H v d → g d s = some s' → ∀ Q : L2.St → Hp → Prop,
  (∀ W' σ', Rel E G W' H σ' s' → (∀ a, Av G W' a → Av G W a) → Wk W W' → Q σ' H) → t v σ H Q
def SndGs (E : Ev) (t : TGs) (g : List D → S → Option S) : Prop := ∀ G W σ H s v d s', Rel E G W H σ s → Reps E (Av G W) H v d → g d s = some s' → ∀ Q : L2.St → Hp → Prop,
  (∀ W' σ', Rel E G W' H σ' s' → (∀ a, Av G W' a → Av G W a) → Wk W W' → Q σ' H) → t v σ H Q
structure VG (X : Cx) (tg : Expr) (g : Fg) : Prop where
  ex : ∃ t, PG X tg t ∧ SndG (evX X) t g
structure VGs (X : Cx) (tg : List Expr) (g : List D → S → Option S) : Prop where
  ex : ∃ t, PGs X tg t ∧ SndGs (evX X) t g
def gNm (i : Nat) : Fg := fun d s => some (s.put i (.val d))
def gsNil : List D → S → Option S := fun ds s => match ds with
  | [] => some s
  | _ => none
def gsCons (g : Fg) (gs : List D → S → Option S) : List D → S → Option S := fun ds s => match ds with
  | d :: r => (g d s).bind (gs r)
  | [] => none
def gTp (n : Nat) (gs : List D → S → Option S) : Fg := fun d s => match d with
  | .tuple ds => if ds.length = n then gs ds s else none
  | _ => none
section
variable {X : Cx} {i : Nat} {x : Str} {e : Expr} {es : List Expr} {g : Fg} {gs : List D → S → Option S} {pos : Pos}
theorem snd_gnm {E : Ev} : SndG E (gName i) (gNm i) := fun G W σ H s v d s' R r hf Q hq => by
  cases hf
  exact hq _ _ (R.put r) (fun a => av_del a) wk_del
theorem vg_name (i : Nat) {x : Str} {pos : Pos} (hN : X.N.Nodup) (hi : X.N[i]? = some x := by rfl) (hx : Loc X.env.scope x := by first | exact Or.inl rfl | exact Or.inr rfl) (hf : X.fn x = true ∨ X.env.scope.names.lookup x = some .local := by first | exact .inl rfl | exact .inr rfl) : VG X (.Name x pos) (gNm i) :=
  ⟨_, pg_name hN hi hx hf, snd_gnm⟩
theorem vgs_nil : VGs X [] gsNil := ⟨_, pgs_nil, fun G W σ H s v d s' R r hf Q hq => by
  cases r with
  | nil => cases hf; exact ⟨rfl, hq _ _ R (fun _ h => h) Wk.refl⟩
  | cons _ _ => cases hf⟩
theorem vgs_cons (h : VG X e g) (hr : VGs X es gs) (hs : (assignEach (e :: es) X.env).map (·.2) = assign e X.env :: (assignEach es X.env).map (·.2) := by rfl) : VGs X (e :: es) (gsCons g gs) := by
  obtain ⟨t, p, sn⟩ := h.ex
  obtain ⟨u, q, sm⟩ := hr.ex
  refine ⟨_, pgs_cons p q hs, fun G W σ H s v d s' R r hf Q hq => ?_⟩
  cases r with
  | nil => cases hf
  | cons r1 rt =>
    unfold gsCons at hf
    dsimp only at hf
    simp only [Option.bind_eq_some_iff] at hf
    obtain ⟨s1, h1, h2⟩ := hf
    refine ⟨_, _, rfl, sn G W σ H s _ _ s1 R r1 h1 _ fun W' σ' R' a1 k1 => ?_⟩
    exact sm G W' σ' H s1 _ _ s' R' (rt.weak a1) h2 _ fun W2 σ2 R2 a2 k2 => hq W2 σ2 R2 (fun a z => a1 a (a2 a z)) (k1.trans k2)
theorem vg_tup {k n : Nat} (hc : X.calm = true) (h : VGs X es gs) (hn : (assignEach es X.env).length = n := by rfl) (hst : (assignEach es X.env).findIdx? (·.1) = none := by rfl) : VG X (.Tuple es k pos) (gTp n gs) := by
  obtain ⟨t, p, sn⟩ := h.ex
  refine ⟨_, pg_tup hc p hn hst, fun G W σ H s v d s' R r hf Q hq => ?_⟩
  cases r <;> simp only [gTp] at hf
  all_goals first | (cases hf; done) | skip
  rename_i a xs ds e1 r1
  split at hf
  · rename_i hl
    exact ⟨a, xs, rfl, e1.sqt, by rw [r1.length]; exact hl, sn G W σ H s _ _ s' R r1 hf _ hq⟩
  · cases hf
/-- target = e -/
def sAsg (f : Fe) (g : Fg) : Fs := fun s => (f s).bind fun (d, s1) => (g d s1).map fun s2 => (.next, s2)
theorem vs_asg {tg : Expr} {f : Fe} (h : VE X e f) (hg : VG X tg g) (hs : swapsWithSole [tg] e pos.line X.env = pure false := by rfl) (hw : swappedStores [tg] e X.env = pure none := by rfl) (h1 : (assignEach [tg] X.env).map (·.2) = [assign tg X.env] := by rfl) : VS X (.Assign [tg] e pos) (sAsg f g) := by
  obtain ⟨t, p, sn⟩ := h.ex
  obtain ⟨u, q, sm⟩ := hg.ex
  refine ⟨_, ps_asg p q hs hw h1, fun G W σ H s Dn R po => ?_⟩
  unfold sAsg at po
  match e1 : f s, po with
  | none, po => exact po.elim
  | some (d, s1), po =>
    dsimp only [Option.bind] at po
    match e2 : g d s1, po with
    | none, po => exact po.elim
    | some s2, po =>
      refine sn G W σ H s d s1 R e1 _ fun v H1 R1 z1 p1 => ?_
      exact sm G W σ H1 s1 v d s2 R1 p1 e2 _ fun W' σ' R' a1 k1 => po W' σ' H1 R' (z1.trans (Fz.weak a1)) k1
/-- a, b = x, y -/
def sPar (i j : Nat) (fa : Fa) : Fs := fun s => (fa s).bind fun (ds, s1) => match ds with
  | [a, b] => some (.next, (s1.put i (.val a)).put j (.val b))
  | _ => none
theorem vs_par {i j : Nat} {x y : Str} {a b : Expr} {fa : Fa} {px py pt pt2 : Pos} {kt k2 : Nat} (ha : VA X [a, b] fa) (hc : X.calm = true) (hN : X.N.Nodup) (hi : X.N[i]? = some x := by rfl) (hj : X.N[j]? = some y := by rfl) (hij : i ≠ j := by decide)
    (hx : X.env.scope.names.lookup x = some .local := by rfl) (hy : X.env.scope.names.lookup y = some .local := by rfl)
    (hw : swappedStores [.Tuple [.Name x px, .Name y py] kt pt] (.Tuple [a, b] k2 pt2) X.env = pure (some [x, y]) := by rfl)
    (hs : swapsWithSole [.Tuple [.Name x px, .Name y py] kt pt] (.Tuple [a, b] k2 pt2) pos.line X.env = pure false := by rfl) :
    VS X (.Assign [.Tuple [.Name x px, .Name y py] kt pt] (.Tuple [a, b] k2 pt2) pos) (sPar i j fa) := by
  obtain ⟨t, p, sn⟩ := ha.ex
  refine ⟨_, ps_par hc hN hi hj hij hx hy p hw hs, fun G W σ H s Dn R po => ?_⟩
  unfold sPar at po
  match e1 : fa s, po with
  | none, po => exact po.elim
  | some (ds, s1), po =>
    dsimp only [Option.bind] at po
    split at po
    · refine sn G W σ H s _ s1 R e1 _ fun v H1 R1 z1 p1 => ?_
      cases p1 with
      | cons r1 rt =>
        cases rt with
        | cons r2 rn =>
          cases rn
          refine ⟨_, _, rfl, po _ _ H1 ((R1.put r1).put (r2.weak av_del)) ((z1.trans fz_del).trans fz_del) (wk_del.trans wk_del)⟩
    · exact po.elim
def sPar3 (i j l : Nat) (fa : Fa) : Fs := fun s => (fa s).bind fun (ds, s1) => match ds with
  | [a, b, c] => some (.next, ((s1.put i (.val a)).put j (.val b)).put l (.val c))
  | _ => none
end
end Fx
-- Fx10
namespace Fx
open PySem PySem.Spec L2

/-! ### what is walked -/
/-- the J of a walk gives the data ds, whatever the loop does to things of its own -/
structure Wlk (E : Ev) (A : Addr → Prop) (H1 : Hp) (J : It) (ds : List D) (Gd : Hp → Prop) (Y : Nat → Hp → V → Hp → Prop) : Prop where
  walk : Walk J ds.length Gd Y
  keep : ∀ B H', Fz A B H1 H' → Gd H'
  item : ∀ B (i : Nat) H' x H'', Fz A B H1 H' → Fre B H' → i < ds.length → Y i H' x H'' → Same H' H'' ∧ ∃ d, ds[i]? = some d ∧ Rep E B H'' x d
def SndI (E : Ev) (t : TI) (f : Fa) : Prop := ∀ G W σ H s ds s', Rel E G W H σ s → f s = some (ds, s') → ∀ R : It → Hp → Prop,
  (∀ J H1 Gd Y, Rel E G W H1 σ s' → Fz (Av G W) (Av G W) H H1 → Wlk E (Av G W) H1 J ds Gd Y → R J H1) → t σ H R
structure VI (X : Cx) (tg e : Expr) (f : Fa) : Prop where
  ex : ∃ t, PI X tg e t ∧ SndI (evX X) t f
theorem iter_seqL {X : Cx} {tg : Expr} {pins : List (Addr × Obj)} {σ : L2.St} {H : Hp} {s : Shared} {R : It → Hp → Prop} {a : Addr} {xs : List V} (I : Inv X pins σ H s) (hq : SqL X.K H a xs) (q : R (Itl X.K a) H) :
    wpAny (model X.prog X.w) X.A (pyIter (.ref a)) (PIE X pins σ tg R) X.xe s := by
  obtain ⟨its, _, p, _⟩ := I.list hq
  have new : ∀ b ∈ [s.heap.objs.size], FpOk X pins H b := fun b hb => by
    cases List.mem_singleton.mp hb
    exact I.fpOk (Nat.le_refl _) (I.hok.fresh (Nat.le_refl _))
  exact wpAny_pyIter_list p.isList ⟨_, _, _, _, H, rfl, I.kept (t' := s.toks) fun _ _ => Heap.get?_push_of_some _, turn_list a _, ⟨_, Heap.get?_push_size _ rfl, rfl, rfl⟩, new, q⟩
theorem iter_seqT {X : Cx} {tg : Expr} {pins : List (Addr × Obj)} {σ : L2.St} {H : Hp} {s : Shared} {R : It → Hp → Prop} {a : Addr} {xs : List V} (I : Inv X pins σ H s) (hq : SqT X.K H a xs) (q : R (Itt X.K a) H) :
    wpAny (model X.prog X.w) X.A (pyIter (.ref a)) (PIE X pins σ tg R) X.xe s := by
  obtain ⟨its, _, p, _⟩ := I.tuple hq
  have new : ∀ b ∈ [s.heap.objs.size], FpOk X pins H b := fun b hb => by
    cases List.mem_singleton.mp hb
    exact I.fpOk (Nat.le_refl _) (I.hok.fresh (Nat.le_refl _))
  exact wpAny_pyIter_tuple (items := its.toArray) p ⟨_, _, _, _, H, rfl, I.kept (t' := s.toks) fun _ _ => Heap.get?_push_of_some _, turn_tuple a _, ⟨_, Heap.get?_push_size _ rfl, rfl, rfl⟩, new, q⟩
def iSeq (K : PySem.W.Frag) (tl : TE) : TI := fun σ H R => tl σ H fun x H1 => ∃ a, x = .ref a ∧ (((∃ xs, SqL K H1 a xs) ∧ R (Itl K a) H1) ∨ ((∃ xs, SqT K H1 a xs) ∧ R (Itt K a) H1))
theorem pi_seq {X : Cx} {tg l : Expr} {tl : TE} (hl : PE X l tl) : PI X tg l (iSeq X.K tl) := by
  refine ⟨fun pins s σ H R I h => thn (hl.run pins s σ H _ I h) fun v s1 ⟨x, H1, I1, r1, a, e, q⟩ => ?_⟩
  subst e
  cases r1
  rcases q with ⟨⟨xs, hq⟩, q⟩ | ⟨⟨xs, hq⟩, q⟩
  · exact iter_seqL I1 hq q
  · exact iter_seqT I1 hq q
def iterS (f : Fe) : Fa := fun s => (f s).bind fun (d, s1) => (seqD d).map fun ds => (ds, s1)
section
variable {X : Cx} {tg e a b : Expr} {f f1 f2 : Fe} {fa : Fa} {pos p p' : Pos} {x : Str}
theorem vi_seq (h : VE X e f) : VI X tg e (iterS f) := by
  obtain ⟨t, p, sn⟩ := h.ex
  refine ⟨_, pi_seq p, ?_⟩
  intro G W σ H s ds s' R hf Rq hR
  unfold iterS at hf
  simp only [Option.bind_eq_some_iff, Option.map_eq_some_iff] at hf
  obtain ⟨⟨d, s1⟩, e1, ys, e2, e3⟩ := hf
  cases e3
  refine sn G W σ H s d _ R e1 _ fun v H1 R1 z1 p1 => ?_
  cases p1 <;> simp only [seqD] at e2
  all_goals first | (cases e2; done) | skip
  · rename_i a xs es e4 r1
    cases e2
    refine ⟨a, rfl, .inr ⟨⟨xs, e4.sqt⟩, hR _ H1 (fun H => SqT (evX X).K H a xs) (YAt xs) R1 z1 ⟨by rw [← r1.length]; exact walk_tup, fun B H' z => (TupAt.fz z e4).sqt, fun B i H' y H'' z fr hi hy => ?_⟩⟩⟩
    obtain ⟨rfl, hx⟩ := hy
    obtain ⟨v, h1, h2⟩ := r1.get (List.getElem?_eq_getElem hi)
    rw [hx] at h1; cases h1
    exact ⟨Same.refl _, _, List.getElem?_eq_getElem hi, h2.fz z⟩
  · rename_i a xs es n1 e4 r1
    cases e2
    refine ⟨a, rfl, .inl ⟨⟨xs, SqL.of e4⟩, hR _ H1 (fun H => SqL (evX X).K H a xs) (YAt xs) R1 z1 ⟨by rw [← r1.length]; exact walk_list, fun B H' z => SqL.of (z _ _ n1 e4).2, fun B i H' y H'' z fr hi hy => ?_⟩⟩⟩
    obtain ⟨rfl, hx⟩ := hy
    obtain ⟨v, h1, h2⟩ := r1.get (List.getElem?_eq_getElem hi)
    rw [hx] at h1; cases h1
    exact ⟨Same.refl _, _, List.getElem?_eq_getElem hi, h2.fz z⟩
def rangeL (lo hi : Int) : List D := (List.range (hi - lo).toNat).map fun (k : Nat) => .int (lo + k)
def range1D : List D → Option (List D)
  | [.int n] => if -1000000 ≤ n ∧ n ≤ 1000000 then some (rangeL 0 n) else none
  | _ => none
def range2D : List D → Option (List D)
  | [.int m, .int n] => if -1000000 ≤ m ∧ m ≤ 1000000 ∧ -1000000 ≤ n ∧ n ≤ 1000000 then some (rangeL m n) else none
  | _ => none
def iterA (g : List D → Option (List D)) (fa : Fa) : Fa := fun s => (fa s).bind fun (ds, s1) => (g ds).map fun xs => (xs, s1)
theorem iterA_some {g : List D → Option (List D)} {fa : Fa} {s s' : S} {ds : List D} (h : iterA g fa s = some (ds, s')) : ∃ xs, fa s = some (xs, s') ∧ g xs = some ds := by
  unfold iterA at h
  simp only [Option.bind_eq_some_iff, Option.map_eq_some_iff] at h
  obtain ⟨⟨d, s1⟩, e1, ys, e2, e3⟩ := h
  cases e3
  exact ⟨d, e1, e2⟩
theorem one_int {E : Ev} {A : Addr → Prop} {H : Hp} {xs : List V} {i : Int} (r : Reps E A H xs [.int i]) : xs = [.int i] := by
  cases r with
  | cons a b => cases b; cases a; rfl
theorem wlk_range {E : Ev} {A : Addr → Prop} {H1 : Hp} (lo hi : Int) : Wlk E A H1 (Itr lo (hi - lo).toNat) (rangeL lo hi) (fun _ => True) (YFn fun i => .int (lo + i)) := by
  have hl : (rangeL lo hi).length = (hi - lo).toNat := by simp [rangeL]
  refine ⟨by rw [hl]; exact walk_range, fun _ _ _ => trivial, fun B i H' y H'' z fr hi' hy => ?_⟩
  obtain ⟨rfl, rfl⟩ := hy
  rw [hl] at hi'
  refine ⟨Same.refl _, .int (lo + i), ?_, .int _⟩
  simp only [rangeL, List.getElem?_map, List.getElem?_range hi', Option.map_some]
theorem vi_range1 (hg : Gl X "range") (hm : X.mg "range" = none) (ha : VA X [a] fa) (hs : starEach [a] X.env = [(false, eval a X.env)] := by rfl) : VI X tg (.Call (.Name "range" p) [a] [] pos) (iterA range1D fa) := by
  obtain ⟨t, p, sn⟩ := ha.ex
  refine ⟨_, pi_range1 hg hm p hs, ?_⟩
  intro G W σ H s ds s' R hf Rq hR
  obtain ⟨xs, e1, e2⟩ := iterA_some hf
  refine sn G W σ H s xs _ R e1 _ fun v H1 R1 z1 p1 => ?_
  unfold range1D at e2
  split at e2
  · split at e2
    · rename_i hn
      cases e2
      rw [one_int p1]
      refine ⟨_, rfl, by omega, by omega, ?_⟩
      have q := hR _ H1 _ _ R1 z1 (wlk_range 0 _)
      simpa using q
    · cases e2
  · cases e2
theorem vi_range2 (hg : Gl X "range") (hm : X.mg "range" = none) (ha : VA X [a, b] fa) (hs : starEach [a, b] X.env = [(false, eval a X.env), (false, eval b X.env)] := by rfl) (hs2 : starEach [b] X.env = [(false, eval b X.env)] := by rfl) : VI X tg (.Call (.Name "range" p) [a, b] [] pos) (iterA range2D fa) := by
  obtain ⟨t, p, sn⟩ := ha.ex
  refine ⟨_, pi_range2 hg hm p hs hs2, ?_⟩
  intro G W σ H s ds s' R hf Rq hR
  obtain ⟨xs, e1, e2⟩ := iterA_some hf
  refine sn G W σ H s xs _ R e1 _ fun v H1 R1 z1 p1 => ?_
  unfold range2D at e2
  split at e2
  · split at e2
    · rename_i hn
      cases e2
      rw [two_of p1]
      exact ⟨_, _, rfl, ⟨by omega, by omega, by omega, by omega⟩, hR _ H1 _ _ R1 z1 (wlk_range _ _)⟩
    · cases e2
  · cases e2
/-- enumerate(xs) -/
def enumL (xs : List D) : List D := (List.range xs.length).map fun (k : Nat) => .tuple [.int k, xs.getD k .none]
def enumD : List D → Option (List D)
  | [.list xs] => some (enumL xs)
  | _ => none
theorem vi_enum {elts : List Expr} {kk : Nat} {tpos : Pos} (hg : Gl X "enumerate") (hm : X.mg "enumerate" = none) (ha : VA X [a] fa) (hs : starEach [a] X.env = [(false, eval a X.env)] := by rfl) : VI X (.Tuple elts kk tpos) (.Call (.Name "enumerate" p) [a] [] pos) (iterA enumD fa) := by
  obtain ⟨t, p, sn⟩ := ha.ex
  refine ⟨_, pi_enum hg hm p hs, ?_⟩
  intro G W σ H s ds s' R hf Rq hR
  obtain ⟨xs, e1, e2⟩ := iterA_some hf
  refine sn G W σ H s xs _ R e1 _ fun v H1 R1 z1 p1 => ?_
  unfold enumD at e2
  split at e2
  · rename_i ys
    cases e2
    cases p1 with
    | cons q1 qt =>
      cases qt
      cases q1 with
      | lst n1 e4 r1 =>
        rename_i a vs
        have hl : (enumL ys).length = vs.length := by simp [enumL, r1.length]
        refine ⟨a, vs, rfl, SqL.of e4, hR _ H1 _ _ R1 z1 ⟨by rw [hl]; exact walk_enum, fun B H' z => SqL.of (z _ _ n1 e4).2, fun B i H' y H'' z fr hi hy => ?_⟩⟩
        obtain ⟨T, u, w, rfl, hn, rfl, hu, hw⟩ := hy
        cases hu
        have hi' : i < ys.length := by rw [hl, r1.length] at hi; exact hi
        obtain ⟨w', h1, h2⟩ := r1.get (List.getElem?_eq_getElem hi')
        rw [show vs[i]? = some w from hw] at h1; cases h1
        have k := same_new (o := .tup [.int (i : Nat), w]) hn
        refine ⟨k, .tuple [.int (i : Nat), ys[i]], ?_, .tup (.inl ⟨fr.no hn, upd_same⟩) (.cons (.int _) (.cons ((h2.fz z).fz (Fz.of_same k)) .nil))⟩
        simp [enumL, List.getElem?_range hi', List.getD, List.getElem?_eq_getElem hi']
  · cases e2
/-! ### for -/
def loopF (g : Fg) (F : Fs) : List D → S → Option (Fl × S)
  | [], s => some (.next, s)
  | d :: r, s => (g d s).bind fun s1 => match F s1 with
    | some (.next, s2) => loopF g F r s2
    | some (.cont, s2) => loopF g F r s2
    | some (.brk, s2) => some (.next, s2)
    | x => x
def sFor (fi : Fa) (g : Fg) (F : Fs) : Fs := fun s => (fi s).bind fun (ds, s1) => loopF g F ds s1
theorem loop_step {E : Ev} {t : TS} {F : Fs} {G : Cfg} {W : Wt} {H : Hp} {σ : L2.St} {s : S} {Dn : Ends} {Nx : L2.St → Hp → Prop} {r : S → Option (Fl × S)} (sn : SndS E t F) (R : Rel E G W H σ s)
    (po : Post E G W H Dn (match F s with
      | some (.next, s2) => r s2
      | some (.cont, s2) => r s2
      | some (.brk, s2) => some (.next, s2)
      | x => x))
    (hn : ∀ W' σ' H' s', Rel E G W' H' σ' s' → Fz (Av G W) (Av G W') H H' → Wk W W' → Post E G W' H' Dn (r s') → Nx σ' H') : t { Dn with nx := Nx, ct := Nx, bk := Dn.nx } σ H := by
  refine sn G W σ H s _ R ?_
  match e : F s, po with
  | some (.next, s1), po => exact fun W' σ' H' R' z k => hn W' σ' H' s1 R' z k (Post.back z k po)
  | some (.cont, s1), po => exact fun W' σ' H' R' z k => hn W' σ' H' s1 R' z k (Post.back z k po)
  | some (.brk, s1), po => exact po
  | some (.ret d, s1), po => exact po
  | some (.retF d, s1), po => exact po
  | none, po => exact po.elim
theorem vs_for {body : List Stmt} {g : Fg} {F : Fs} (hp : PassesOwn (model X.prog X.w) X.A X.env X.xe) (hc : X.calm = true) (hi : VI X tg e fa) (hg : VG X tg g) (hb : VB X body F) (hs : ∀ x, foldedSetIterable e X.env x = pure x := by intro _; rfl) :
    VS X (.For tg e body [] pos) (sFor fa g F) := by
  obtain ⟨ti, pi, si⟩ := hi.ex
  obtain ⟨tg', pg, sg⟩ := hg.ex
  obtain ⟨tb, pb, sb⟩ := hb.ex
  refine ⟨_, ps_for hp hc pi pg pb hs, fun G W σ H s Dn R po => ?_⟩
  unfold sFor at po
  match e1 : fa s, po with
  | none, po => exact po.elim
  | some (ds, s1), po =>
    refine si G W σ H s ds s1 R e1 _ fun J H1 Gd Y R1 z1 wl => ?_
    refine for_it wl.walk (fun i σ' H' => ∃ W' s', Rel (evX X) G W' H' σ' s' ∧ Fz (Av G W) (Av G W') H1 H' ∧ Wk W W' ∧ Post (evX X) G W' H' Dn (loopF g F (ds.drop i) s')) ⟨W, s1, R1, Fz.refl, Wk.refl, Post.back z1 Wk.refl po⟩ ?_ ?_ ?_
    · rintro i σ' H' hi' ⟨W', s', R', z, k, _⟩
      exact wl.keep _ H' z
    · rintro i x σ' H' H'' hi' ⟨W', s', R', z, k, p⟩ hy
      obtain ⟨sm, d, hd, rd⟩ := wl.item _ i H' x H'' z R'.fre hi' hy
      have R2 := R'.same sm
      have z2 : Fz (Av G W') (Av G W') H' H'' := Fz.of_same sm
      have p2 := Post.back z2 Wk.refl p
      rw [List.drop_eq_getElem_cons hi'] at p2
      have ed : ds[i] = d := by rw [List.getElem?_eq_getElem hi'] at hd; exact Option.some.inj hd
      rw [ed] at p2
      unfold loopF at p2
      match e2 : g d s', p2 with
      | none, p2 => exact p2.elim
      | some s2, p2 =>
        dsimp only [Option.bind] at p2
        refine sg G W' σ' H'' s' x d s2 R2 rd e2 _ fun W3 σ3 R3 a3 k3 => ?_
        have p3 := Post.back (Fz.weak a3 : Fz (Av G W') (Av G W3) H'' H'') k3 p2
        exact loop_step sb R3 p3 fun W4 σ4 H4 s4 R4 z4 k4 p4 => ⟨W4, s4, R4, ((z.trans z2).trans (Fz.weak a3)).trans z4, (k.trans k3).trans k4, p4⟩
    · rintro σ' H' ⟨W', s', R', z, k, p⟩
      rw [List.drop_length] at p
      exact p W' σ' H' R' Fz.refl Wk.refl
/-! ### while -/
def whileF (c : Fe) (F : Fs) : Nat → S → Option (Fl × S)
  | 0, _ => none
  | n + 1, s => (c s).bind fun (x, s1) => match x with
    | .bool true => (match F s1 with
      | some (.next, s2) => whileF c F n s2
      | some (.cont, s2) => whileF c F n s2
      | some (.brk, s2) => some (.next, s2)
      | x => x)
    | .bool false => some (.next, s1)
    | _ => none
def sWhile (n : Nat) (c : Fe) (F : Fs) : Fs := fun s => whileF c F n s
theorem vs_while (n : Nat) {c : Expr} {body : List Stmt} {F : Fs} (hp : PassesOwn (model X.prog X.w) X.A X.env X.xe) (hc : VT X c f) (hb : VB X body F) : VS X (.While c body [] pos) (sWhile n f F) := by
  obtain ⟨tc, pc, sc⟩ := hc.ex
  obtain ⟨tb, pb, sb⟩ := hb.ex
  refine ⟨_, ps_while hp pc pb, fun G W σ H s Dn R po => ?_⟩
  refine ⟨fun m σ' H' => ∃ W' s', Rel (evX X) G W' H' σ' s' ∧ Post (evX X) G W' H' Dn (whileF f F m s'), ⟨n, W, s, R, po⟩, ?_⟩
  rintro m σ' H' ⟨W', s', R', p⟩
  match m, p with
  | 0, p => exact p.elim
  | m + 1, p =>
    unfold whileF at p
    match e : f s', p with
    | none, p => exact p.elim
    | some (.bool true, s1), p =>
      dsimp only [Option.bind] at p
      refine sc G W' σ' H' s' _ s1 R' e _ fun H1 R1 z1 => ?_
      rw [if_pos rfl]
      refine ⟨fun σ2 H2 => ∃ W2 s2, Rel (evX X) G W2 H2 σ2 s2 ∧ Post (evX X) G W2 H2 Dn (whileF f F m s2), fun σ2 H2 h => ⟨m, Nat.lt_succ_self m, h⟩, ?_⟩
      exact loop_step sb R1 (Post.back z1 Wk.refl p) fun W4 σ4 H4 s4 R4 z4 k4 p4 => ⟨W4, s4, R4, p4⟩
    | some (.bool false, s1), p =>
      dsimp only [Option.bind] at p
      refine sc G W' σ' H' s' _ s1 R' e _ fun H1 R1 z1 => ?_
      rw [if_neg Bool.false_ne_true]
      exact p W' σ' H1 R1 z1 Wk.refl
    | some (.none, s1), p => exact p.elim
    | some (.int _, s1), p => exact p.elim
    | some (.str _, s1), p => exact p.elim
    | some (.list _, s1), p => exact p.elim
    | some (.tuple _, s1), p => exact p.elim
    | some (.dict _, s1), p => exact p.elim
end
end Fx
-- Fc
namespace Fx
open PySem PySem.Spec L2

/-! ### comprehensions with any number of clauses -/
/-- the tests of a clause -/
def testsC (ifs : List Expr) (env : Env) : Sem Bool := forIn ifs true fun c r => if r = true then do let ok ← isTrue c env (eval c env); pure (ForInStep.yield ok) else pure (ForInStep.yield r)
/-- what is done behind the tests of the clause ahead of d, then k -/
def innerC (e : Expr) (gens : List Comprehension) (emit : Sem Unit) (d : Nat) (acc : Value) (env : Env) (k : Sem Fin) : Sem Fin := match gens[d]? with
  | some g => do
    let x ← eval g.iter env
    standAt g.iter.pos
    let x ← foldedSetIterable g.iter env x
    let _ ← runOwn (.compStart e d (← holding [x] (pyIter x)) acc env) env
    k
  | none => do
    emit
    k
/-- one turn of the clause d -/
def turnC (tg iter : Expr) (ifs : List Expr) (inner : Sem Fin → Sem Fin) (it : Value) (env : Env) (k : Sem Fin) : Sem Fin := do
  standAt iter.pos
  match ← pyNext it with
  | none => pure (.done .next)
  | some v =>
    letOwnedTupleGo tg it v
    assign tg env v
    let ok ← testsC ifs env
    if ok = true then inner k else k
def emitL (elt : Expr) (acc : Value) (env : Env) : Sem Unit := do let _ ← call (.builtin "list.append") [acc, ← eval elt env]
def emitS (elt : Expr) (acc : Value) (env : Env) : Sem Unit := do let v ← eval elt env; standAt elt.pos; let _ ← call (.builtin "set.add") [acc, v]
/-- a comprehension and what it does with each element -/
structure CmpK (e : Expr) (gens : List Comprehension) (emit : Value → Env → Sem Unit) : Prop where
  cl : clausesOf e = gens
  turn : ∀ (d : Nat) (tg iter : Expr) (ifs : List Expr) (it acc : Value) (env : Env), gens[d]? = some ⟨tg, iter, ifs, 0⟩ → compTurn e d it acc env = turnC tg iter ifs (innerC e gens (emit acc env) (d + 1) acc env) it env (again (.compLoop e d it acc env))
  quiet : ∀ d it acc env, (Code.compLoop e d it acc env).quiet = true
  denL : ∀ prog w d it acc env, (model prog w).den (.compLoop e d it acc env) = (compTurn e d it acc env).onRaise (fun x => do noteFrame x env; theTreesLotGoes x)
  denS : ∀ prog w d it acc env, (model prog w).den (.compStart e d it acc env) = (compStart e d it acc env).onRaise (fun x => do noteFrame x env; standAt theWindowsPlace)
  undL : ∀ (A : Around) d it acc env, A.under (.compLoop e d it acc env) = A
  undS : ∀ (A : Around) d it acc env, A.under (.compStart e d it acc env) = A
theorem cmpL (elt : Expr) (gens : List Comprehension) (scope : Scope) (pos : Pos) (hs : ∀ g ∈ gens, g.is_async = 0) : CmpK (.ListComp elt gens scope pos) gens (emitL elt) := by
  refine ⟨rfl, fun d tg iter ifs it acc env h => ?_, fun _ _ _ _ => rfl, fun _ _ _ _ _ _ => rfl, fun _ _ _ _ _ _ => rfl, fun _ _ _ _ _ => rfl, fun _ _ _ _ _ => rfl⟩
  unfold compTurn turnC innerC testsC emitL
  simp only [h]
  cases h' : gens[d + 1]? with
  | none => rfl
  | some g =>
    have := hs g (List.mem_of_getElem? h')
    obtain ⟨a, b, c, k⟩ := g
    cases this
    rfl
theorem cmpS (elt : Expr) (gens : List Comprehension) (scope : Scope) (pos : Pos) (hs : ∀ g ∈ gens, g.is_async = 0) : CmpK (.SetComp elt gens scope pos) gens (emitS elt) := by
  refine ⟨rfl, fun d tg iter ifs it acc env h => ?_, fun _ _ _ _ => rfl, fun _ _ _ _ _ _ => rfl, fun _ _ _ _ _ _ => rfl, fun _ _ _ _ _ => rfl, fun _ _ _ _ _ => rfl⟩
  unfold compTurn turnC innerC testsC emitS
  simp only [h]
  cases h' : gens[d + 1]? with
  | none => rfl
  | some g =>
    have := hs g (List.mem_of_getElem? h')
    obtain ⟨a, b, c, k⟩ := g
    cases this
    rfl
/-- nothing is raised -/
abbrev FF : Value → Shared → Prop := fun _ _ => False
section
variable {prog : Program} {w : World} {A : Around} {R : Result → Shared → Prop} {s : Shared} {e : Expr} {gens : List Comprehension} {emit : Value → Env → Sem Unit} {tg iter : Expr} {ifs : List Expr} {it acc : Value} {env : Env} {d : Nat}
/-- the loop of one clause -/
theorem cloop (c : CmpK e gens emit) (hg : gens[d]? = some ⟨tg, iter, ifs, 0⟩) (I : Nat → Shared → Prop)
    (turn : ∀ n s, I n s → wpAny (model prog w) A (pyNext it) (fun r s1 => match r with
      | none => R (.ok .next) s1
      | some v => wpAny (model prog w) A (letOwnedTupleGo tg it v) (fun _ s2 => wpAny (model prog w) A (assign tg env v) (fun _ s3 => wpAny (model prog w) A (testsC ifs env) (fun ok s4 =>
          if ok = true then ∀ (k : Sem Fin) (Q : Fin → Shared → Prop), (∀ s', (∃ m, m < n ∧ I m s') → wpAny (model prog w) A k Q FF s') → wpAny (model prog w) A (innerC e gens (emit acc env) (d + 1) acc env k) Q FF s4
          else ∃ m, m < n ∧ I m s4) FF s3) FF s2) FF s1) FF s)
    (n : Nat) (h : I n s) : codeAny (model prog w) A (.compLoop e d it acc env) R s := by
  refine codeAny_loop (c.quiet _ _ _ _) I (fun n s hI => ?_) n h
  rw [c.denL, c.undL, c.turn d tg iter ifs it acc env hg]
  refine wpAny_noted ?_
  unfold turnC
  refine wpAny_bind (wpAny_standAt (wpAny_bind (wpAny_mono (turn n s hI) (fun r s1 h1 => ?_) fun _ _ z => z.elim)))
  cases r with
  | none => exact wpAny_pure h1
  | some v =>
    refine wpAny_bind (wpAny_mono h1 (fun _ s2 h2 => wpAny_bind (wpAny_mono h2 (fun _ s3 h3 => wpAny_bind (wpAny_mono h3 (fun ok s4 h4 => ?_) fun _ _ z => z.elim)) fun _ _ z => z.elim)) fun _ _ z => z.elim)
    cases ok with
    | false => exact wpAny_pure ⟨rfl, h4⟩
    | true => exact wpAny_mono (h4 _ _ fun s' hs => wpAny_pure ⟨rfl, hs⟩) (fun _ _ q => q) fun _ _ z => z.elim
/-- the start of one clause -/
theorem cstart (c : CmpK e gens emit) (hg : gens[d]? = some ⟨tg, iter, ifs, 0⟩) (h0 : codeAny (model prog w) A (.compLoop e d it acc env) R s)
    (h : wpAny (model prog w) A (pyIter it) (fun it' s' => codeAny (model prog w) A (.compLoop e d it' acc env) R s') FF s) : codeAny (model prog w) A (.compStart e d it acc env) R s := by
  refine codeAny_of_tree ?_
  rw [c.denS, c.undS]
  refine wpAny_notedAt ?_
  unfold compStart
  rw [c.cl, hg]
  show wpAny _ _ (ask >>= _) _ _ s
  refine wpAny_bind (wpAny_askSetting (wpAny_ite ?_))
  split
  · first
      | exact wpAny_bind (wpAny_pure (wpAny_pure (And.intro (c.quiet _ _ _ _) h0)))
      | exact wpAny_pure (And.intro (c.quiet _ _ _ _) h0)
  · refine wpAny_bind (wpAny_rule ?_)
    show wpAny _ _ (standAt iter.pos >>= _) _ _ s
    exact wpAny_bind (wpAny_standAt (wpAny_bind (wpAny_mono h (fun it' s' h' => wpAny_pure (And.intro (c.quiet _ _ _ _) h')) fun _ _ z => z.elim)))
end
theorem wipe_none {σ : L2.St} : ∀ {vs : List Nat}, (∀ i ∈ vs, σ[i]? = some none) → wipe σ vs = σ
  | [], _ => rfl
  | v :: vs, h => by
    unfold wipe
    rw [wipe_none fun i hi => h i (List.mem_cons_of_mem _ hi)]
    apply List.ext_getElem?
    intro j
    by_cases e : j = v
    · subst e
      have q := h j List.mem_cons_self
      rw [List.getElem?_set_self (List.getElem?_eq_some_iff.mp q).1, q]
    · rw [List.getElem?_set_ne (Ne.symm e)]
/-! the clauses in a block -/
section
variable {Y : Cx} {e : Expr} {gens : List Comprehension} {emit : Value → Env → Sem Unit} {acc : Value} {d : Nat}
/-- what the clauses from d on do to the heap -/
def PL (Y : Cx) (e : Expr) (gens : List Comprehension) (emit : Value → Env → Sem Unit) (acc : Value) (d : Nat) (t : L2.St → Hp → (Hp → Prop) → Prop) : Prop :=
  ∀ (pins : List (Addr × Obj)) (s : Shared) (σ : L2.St) (H : Hp) (Nx : Hp → Prop) (k : Sem Fin) (Q : Fin → Shared → Prop), Inv Y pins σ H s → t σ H Nx →
    (∀ s' H', Inv Y pins σ H' s' → Nx H' → wpAny (model Y.prog Y.w) Y.A k Q FF s') → wpAny (model Y.prog Y.w) Y.A (innerC e gens (emit acc Y.env) d acc Y.env k) Q FF s
/-- the turns of a clause -/
def tTurns (J : It) (g : TG) (tt : TT) (t : L2.St → Hp → (Hp → Prop) → Prop) (vs : List Nat) (σ : L2.St) (H1 : Hp) (Nx : Hp → Prop) : Prop := ∃ W : Nat → Nat → Hp → Prop, (∃ m, W 0 m H1) ∧ ∀ i m H, W i m H →
  (J.stop i H ∧ Nx H) ∨ (J.go i H ∧ ∃ Nx' : Hp → Prop, (∀ H', Nx' H' → ∃ m', m' < m ∧ W (i + 1) m' H') ∧ ∀ x H', J.yld i H x H' → g x (wipe σ vs) H' fun σ2 H2 => wipe σ2 vs = wipe σ vs ∧ tt σ2 H2 fun b H3 =>
    if b = true then t σ2 H3 Nx' else Nx' H3)
def tClause (wi : TI) (g : TG) (tt : TT) (t : L2.St → Hp → (Hp → Prop) → Prop) (vs : List Nat) : L2.St → Hp → (Hp → Prop) → Prop := fun σ H Nx => wi σ H fun J H1 => tTurns J g tt t vs σ H1 Nx
/-- the last: the element is put to the list at D -/
theorem pl_emitL {elt : Expr} {te : TE} {D : Addr} (hx : Y.xe = FF) (hd : gens[d]? = none) (he : PE Y elt te) : PL Y e gens (emitL elt) (.ref D) d (fun σ H Nx => te σ H fun y H1 => ∃ xs, H1 D = some (.lst xs) ∧ xs.length < sizeLine ∧ Nx (upd H1 D (.lst (xs ++ [y])))) := by
  intro pins s σ H Nx k Q I h hk
  unfold innerC emitL
  rw [hd]
  have h2 := he.run pins s σ H _ I h
  rw [hx] at h2
  refine wpAny_bind (wpAny_bind (thn h2 fun v s1 ⟨y, H1, I1, r1, xs, hD, hz, nx⟩ => wpAny_bind (app_ok I1 hD hz r1 fun s2 I2 => wpAny_pure (hk s2 _ I2 nx))))
theorem pl_clause {tg iter : Expr} {ifs : List Expr} {wi : TI} {g : TG} {tt : TT} {t : L2.St → Hp → (Hp → Prop) → Prop} {vs : List Nat} (c : CmpK e gens emit) (hx : Y.xe = FF) (hc : Y.calm = true) (hd : gens[d]? = some ⟨tg, iter, ifs, 0⟩) (hi : PI Y tg iter wi) (hg : PG Y tg g) (ht : PTs Y ifs tt) (hs : ∀ x, foldedSetIterable iter Y.env x = pure x)
    (hr : PL Y e gens emit acc (d + 1) t) : PL Y e gens emit acc d (fun σ H Nx => (∀ i ∈ vs, σ[i]? = some none) ∧ tClause wi g tt t vs σ H Nx) := by
  intro pins s σ H Nx k Q I h hk
  obtain ⟨hv, h⟩ := h
  unfold innerC
  rw [hd]
  have h2 := hi.run pins s σ H _ I h
  rw [hx] at h2
  refine wpAny_bind (wpAny_mono h2 (fun x s1 h3 => ?_) fun _ _ z => z)
  refine wpAny_bind (wpAny_standAt (wpAny_bind (wpAny_of_eq (hs x) (wpAny_bind (wpAny_holding (wpAny_mono h3 (fun itv s2 h4 => ?_) fun _ _ z => z))))))
  obtain ⟨it, fp, tn, J, H2, e2, I2, T, st2, f2, W, ⟨m0, w0⟩, turn⟩ := h4
  subst e2
  refine wpAny_bind (wpAny_runOwn ?_)
  rw [Around.mark_none]
  have stat : ∀ {H' : Hp}, (∀ b ∈ fp, H' b = none) → ∀ b ∈ fp, FpOk Y pins H' b := fun hn b hb => ⟨hn b hb, (f2 b hb).2⟩
  have ew : wipe σ vs = σ := wipe_none hv
  have loop : codeAny (model Y.prog Y.w) Y.A (.compLoop e d (.ref it) acc Y.env) (fun r s' => match r with
      | .ok _ => ∃ H', Inv Y pins σ H' s' ∧ Nx H'
      | .error _ => False) s2 := by
    refine cloop c hd (fun n s' => ∃ i H', Inv Y pins σ H' s' ∧ tn i s'.heap ∧ (∀ b ∈ fp, H' b = none) ∧ W i n H') ?_ m0 ⟨0, H2, I2, st2, fun b hb => (f2 b hb).1, w0⟩
    rintro n s5 ⟨i, H5, I5, st5, n5, w5⟩
    rcases turn i n H5 w5 with ⟨stop, nx⟩ | ⟨go, Nx', hNx, step⟩
    · refine thn (T.done Y rfl rfl rfl hc i pins s5 σ H5 FF I5 (stat n5) st5 stop) fun r s6 ⟨hr', I6⟩ => ?_
      subst hr'
      exact ⟨H5, I6, nx⟩
    · refine thn (T.item Y rfl rfl rfl hc i pins s5 σ H5 FF I5 (stat n5) st5 go) fun r s6 ⟨u, hr', h6⟩ => ?_
      subst hr'
      refine thn h6 fun _ s7 ⟨x, H7, I7, r7, y7, st7, n7⟩ => ?_
      have I7' := I7.pinned (stat n7) (T.obj _ _ st7)
      have q7 := step x H7 y7
      rw [ew] at q7
      have h8 := hg.run _ s7 σ H7 x u _ I7' r7 q7
      rw [hx] at h8
      refine thn h8 fun _ s8 ⟨σ8, H8, I8, hw8, q8⟩ => ?_
      have h9 := ht.run _ s8 σ8 H8 _ I8 q8
      rw [hx] at h9
      refine thn h9 fun b s9 ⟨H9, I9, q9⟩ => ?_
      have fin : ∀ {s' : Shared} {H' : Hp}, Inv Y (pins ++ pinsAt fp s7.heap) σ8 H' s' → Nx' H' → ∃ m, m < n ∧ ∃ i H', Inv Y pins σ H' s' ∧ tn i s'.heap ∧ (∀ b ∈ fp, H' b = none) ∧ W i m H' := fun {s' H'} I' nx => by
        obtain ⟨m', hm, w'⟩ := hNx H' nx
        have pin' : ∀ b ∈ fp, ∀ o, s7.heap.get? b = some o → s'.heap.get? b = some o ∧ H' b = none := fun b hb o e =>
          let z := I'.pin (b, o) (List.mem_append_right _ (List.mem_append_right _ (mem_pinsAt hb e)))
          ⟨z.1, z.2.1⟩
        have hl : σ.length = σ8.length := by rw [← hw8, wipe_length]
        refine ⟨m', hm, i + 1, H', I'.unpinned.weak hl (fun j v ej => ?_), T.keep _ _ _ st7 fun b hb o e => (pin' b hb o e).1, fun b hb => ?_, w'⟩
        · rw [← hw8] at ej
          exact (wipe_some ej).1
        · obtain ⟨o, e, _⟩ := T.obj _ _ st7 b hb
          exact (pin' b hb o e).2
      cases b with
      | false =>
        simp only [Bool.false_eq_true, if_false] at q9 ⊢
        exact fin I9 q9
      | true =>
        simp only [if_true] at q9 ⊢
        intro k' Q' hk'
        exact hr _ s9 σ8 H9 Nx' k' Q' I9 q9 fun s10 H10 I10 nx => hk' s10 (fin I10 nx)
  refine cstart c hd (codeAny_mono loop fun r s' hr' => ?_) (T.self Y.A 0 _ _ _ st2 (codeAny_mono loop fun r s' hr' => ?_))
  all_goals
    cases r with
    | ok f => exact hk s' _ hr'.choose_spec.1 hr'.choose_spec.2
    | error e => exact hr'.elim
end
end Fx
-- Fd
namespace Fx
open PySem PySem.Spec L2
/-- a place where the block may run -/
structure Blk where
  s : Shared
  H : Hp
  C : Addr
  cl : List (Str × Addr)
  fp : List Addr
abbrev blkAt (X : Cx) (scope : Scope) (b : Blk) : Cx := X.blk b.s b.H scope (compEnvC scope b.cl b.C X.env) b.fp
/-- a whole list comprehension: the first source, then the turns, from the new list at p on -/
def tCompL (wi : TI) (g : Blk → TG) (tt : Blk → TT) (t : Blk → Addr → L2.St → Hp → (Hp → Prop) → Prop) (vs : List Nat) : TE := fun σ H Q => wi σ H fun J H1 => ∀ p, H1 p = none → ∀ b, tTurns J (g b) (tt b) (t b p) vs σ (upd H1 p (.lst [])) (fun H' => Q (.ref p) H')
/-- every place where the block may run -/
abbrev AtBlk (X : Cx) (scope : Scope) (φ : Blk → Cx → Prop) : Prop := ∀ b : Blk, φ b (blkAt X scope b)
theorem comp_core {X : Cx} {pins : List (Addr × Obj)} {s : Shared} {σ : L2.St} {H : Hp} {Q : VK} {e tg iter : Expr} {ifs : List Expr} {rest : List Comprehension} {emit : Value → Env → Sem Unit} {scope : Scope} {own : List (Str × Nat)} {pos' : Pos} {wi : TI} {g : Blk → TG} {tt : Blk → TT} {t : Blk → Addr → L2.St → Hp → (Hp → Prop) → Prop} {use : Option (Value → Sem Unit)} {Qf : Value → Shared → Prop}
    (c : CmpK e (⟨tg, iter, ifs, 0⟩ :: rest) emit) (hc : X.calm = true) (hN : X.N.Nodup) (I : Inv X pins σ H s) (hi : PI X tg iter wi) (ok : BlkOk X.N X.env.scope scope own)
    (hg : AtBlk X scope fun b Y => PG Y tg (g b)) (ht : AtBlk X scope fun b Y => PTs Y ifs (tt b)) (hr : AtBlk X scope fun b Y => ∀ p, PL Y e (⟨tg, iter, ifs, 0⟩ :: rest) emit (.ref p) 1 (t b p)) (hs : ∀ x, foldedSetIterable iter X.env x = pure x)
    (h : tCompL wi g tt t (own.map (·.2)) σ H Q)
    (hRR : ∀ p C s' m H', Inv X pins σ H' s' → Q (.ref p) H' → s'.heap.Ns C m → FpOk X pins H' C → compPost (model X.prog X.w) X.A X.xe use Qf (.ref p) C (.ok .next) s') :
    wpAny (model X.prog X.w) X.A (comprehension e scope X.env pos' (newList []) false (eval iter X.env) use) Qf X.xe s := by
  have captured : ∀ y ∈ scope.names, y.2 = .free → ∃ k, X.env.cells.lookup y.1 = some k := fun y hy q =>
    (ok.free y hy q).elim (fun z => I.ok.has _ (.inl z)) fun z => I.ok.has _ (.inr z)
  refine wpAny_comprehension_free (use := use) c.cl hs (closure_ok captured) ok.kind (fun y hy q => by rw [ok.uniq y hy, q]) (thn (hi.run pins s σ H _ I h) fun _ s1 h1 => thn h1 fun itv s2 h2 => ?_)
  obtain ⟨it, fp, tn, J, H2, e2, I2, T, st2, f2, q⟩ := h2
  subst e2
  refine wpAny_newObj_type (newEnv_comp ?_) (Nat.zero_le _)
  generalize hp : s2.heap.objs.size = p
  have fresh : H2 p = none := I2.hok.fresh (Nat.le_of_eq hp)
  generalize hs3 : ({ s2 with heap := s2.heap.push { cls := .type "list", data := .seq ([] : List Value).toArray } } : Shared) = s3
  have heap3 : s3.heap = s2.heap.push { cls := .type "list", data := .seq ([] : List Value).toArray } := by rw [← hs3]
  have at3 : s3.heap.get? p = some { cls := .type "list", data := .seq ([] : List Value).toArray } := by rw [heap3, ← hp]; exact Heap.get?_push_size _ rfl
  have I3 : Inv X pins σ (upd H2 p (.lst [])) s3 := by
    rw [← hs3]
    exact I2.laid (t' := s2.toks) (fun _ _ => Heap.get?_push_of_some _) (Nat.le_of_eq hp) ⟨Nat.zero_le _, [], 0, .nil, by rw [← heap3]; exact at3⟩
  have below : ∀ b ∈ fp, b < s2.heap.objs.size := fun b hb => let ⟨_, q, _⟩ := T.obj _ _ st2 b hb; Heap.lt_size q
  have f3 : ∀ b ∈ fp, FpOk X pins (upd H2 p (.lst [])) b ∧ b < s3.heap.objs.size := fun b hb =>
    ⟨⟨by rw [upd_ne (by rw [← hp]; exact Nat.ne_of_lt (below b hb))]; exact (f2 b hb).1, (f2 b hb).2⟩, by rw [heap3, Heap.size_push]; exact Nat.lt_succ_of_lt (below b hb)⟩
  have st3 : tn 0 s3.heap := T.keep _ _ _ st2 fun b _ o q => by rw [heap3]; exact Heap.get?_push_of_some _ q
  have I4 := block_start I3 ok hN f3
  generalize hb : (⟨s3, upd H2 p (.lst []), s3.heap.objs.size, cellsFrom (s3.heap.objs.size + 1) scope.names (cloFrom X.env.cells scope.names []), fp⟩ : Blk) = blk
  have pg := hg blk
  have pt := ht blk
  have pl := hr blk p
  obtain ⟨W, ⟨m0, w0⟩, turn⟩ := q p fresh blk
  have hblk : blkAt X scope blk = X.blk s3 (upd H2 p (.lst [])) scope (compEnvC scope (cellsFrom (s3.heap.objs.size + 1) scope.names (cloFrom X.env.cells scope.names [])) s3.heap.objs.size X.env) fp := by rw [← hb]
  rw [hblk] at pg pt pl
  show codeAny _ _ (.compStart e 0 (.ref it) (.ref p) (compEnvC scope (cellsFrom (s3.heap.objs.size + 1) scope.names (cloFrom X.env.cells scope.names [])) s3.heap.objs.size X.env)) _ { s3 with heap := pushCells (s3.heap.push { cls := .type "dict", data := .dict #[] }) scope.names }
  generalize hce : compEnvC scope (cellsFrom (s3.heap.objs.size + 1) scope.names (cloFrom X.env.cells scope.names [])) s3.heap.objs.size X.env = ce at I4 pg pt pl ⊢
  have here : ce.locals = s3.heap.objs.size := by rw [← hce]; rfl
  have nfp : ∀ b ∈ fp, (upd H2 p (.lst [])) b = none := fun b hb => (f3 b hb).1.1
  generalize hH3 : upd H2 p (.lst []) = H3 at I3 I4 pg pt pl w0 nfp f3
  generalize hs4 : ({ s3 with heap := pushCells (s3.heap.push { cls := .type "dict", data := .dict #[] }) scope.names } : Shared) = s4 at I4 ⊢
  generalize hY : X.blk s3 H3 scope ce fp = Y at I4 pg pt pl
  have yP : Y.prog = X.prog := by rw [← hY]
  have yw : Y.w = X.w := by rw [← hY]
  have yK : Y.K = X.K := by rw [← hY]
  have yA : Y.A = X.A := by rw [← hY]
  have yc : Y.calm = true := by rw [← hY]; exact hc
  have yx : Y.xe = FF := by rw [← hY]
  have ye : Y.env = ce := by rw [← hY]
  have st4 : tn 0 s4.heap := T.keep _ _ _ st3 fun b _ o q => by rw [← hs4]; exact pushCells_keeps _ _ _ _ (Heap.get?_push_of_some _ q)
  have stat : ∀ {σ' : L2.St} {H' : Hp} {s' : Shared}, Inv Y [] σ' H' s' → (∀ b ∈ fp, H' b = none) → ∀ b ∈ fp, FpOk Y [] H' b := fun {σ' H' s'} I' hn b hb => by
    have z := I'.ok
    have ex : b ∈ Y.ex := by rw [← hY]; exact hb
    have pn : Y.pn = [] := by rw [← hY]
    exact ⟨hn b hb, (z.exf b ex).1, z.exfs b ex, .inl ex, (z.exf b ex).2, fun q hq => by rw [pn] at hq; cases hq⟩
  have T' : Turn Y.prog Y.w Y.K tg J fp it tn := by rw [yP, yw, yK]; exact T
  have loop : codeAny (model Y.prog Y.w) Y.A (.compLoop e 0 (.ref it) (.ref p) Y.env) (compPost (model X.prog X.w) X.A X.xe use Qf (.ref p) s3.heap.objs.size) s4 := by
    refine cloop c rfl (fun n s' => ∃ i H', Inv Y [] (wipe σ (own.map (·.2))) H' s' ∧ tn i s'.heap ∧ (∀ b ∈ fp, H' b = none) ∧ W i n H') ?_ m0 ⟨0, H3, I4, st4, nfp, w0⟩
    rintro n s5 ⟨i, H5, I5, st5, n5, w5⟩
    rcases turn i n H5 w5 with ⟨stop, qq⟩ | ⟨go, Nx', hNx, step⟩
    · refine thn (T'.done Y rfl rfl rfl yc i [] s5 _ H5 FF I5 (stat I5 n5) st5 stop) fun r s6 ⟨hr', I6⟩ => ?_
      subst hr'
      have I6' : Inv (X.blk s3 H3 scope ce fp) [] (wipe σ (own.map (·.2))) H5 s6 := by rw [hY]; exact I6
      have I7 : Inv X pins σ H5 s6 := I3.call' (ch := fp) I6'.os I6'.base I6'.hok I6'.bare fun b hb => ⟨(f3 b hb).1.2.2.2.1, (f3 b hb).1.2.1, (f3 b hb).1.2.2.2.2.1, (f3 b hb).1.2.2.2.2.2⟩
      have nC : H5 s3.heap.objs.size = none := by rw [← here]; exact I6'.free
      obtain ⟨m, hn, _⟩ := I6'.loc
      exact hRR p s3.heap.objs.size s6 m H5 I7 qq (by rw [← here]; exact hn) (I3.fpOk (Nat.le_refl _) nC)
    · refine thn (T'.item Y rfl rfl rfl yc i [] s5 _ H5 FF I5 (stat I5 n5) st5 go) fun r s6 ⟨u, hr', h6⟩ => ?_
      subst hr'
      refine thn h6 fun _ s7 ⟨x, H7, I7, r7, y7, st7, n7⟩ => ?_
      have I7' := I7.pinned (stat I7 n7) (T.obj _ _ st7)
      have h8 := pg.run _ s7 _ H7 x u _ I7' r7 (step x H7 y7)
      rw [yx] at h8
      refine thn h8 fun _ s8 ⟨σ8, H8, I8, hw8, q8⟩ => ?_
      have h9 := pt.run _ s8 σ8 H8 _ I8 q8
      rw [yx] at h9
      refine thn h9 fun b s9 ⟨H9, I9, q9⟩ => ?_
      have fin : ∀ {s' : Shared} {H' : Hp}, Inv Y ([] ++ pinsAt fp s7.heap) σ8 H' s' → Nx' H' → ∃ m, m < n ∧ ∃ i H', Inv Y [] (wipe σ (own.map (·.2))) H' s' ∧ tn i s'.heap ∧ (∀ b ∈ fp, H' b = none) ∧ W i m H' := fun {s' H'} I' nx => by
        obtain ⟨m', hm, w'⟩ := hNx H' nx
        have pinned : ∀ b ∈ fp, ∀ o, s7.heap.get? b = some o → s'.heap.get? b = some o ∧ H' b = none := fun b hb o q =>
          have z := I'.pin (b, o) (List.mem_append_right _ (List.mem_append_right _ (mem_pinsAt hb q)))
          ⟨z.1, z.2.1⟩
        have hl : (wipe σ (own.map (·.2))).length = σ8.length := by rw [← hw8, wipe_length]
        refine ⟨m', hm, i + 1, H', (I'.unpinned (pins := [])).weak hl (fun j v ej => ?_), T.keep _ _ _ st7 fun b hb o q => (pinned b hb o q).1, fun b hb => ?_, w'⟩
        · rw [← hw8] at ej
          exact (wipe_some ej).1
        · obtain ⟨o, q, _⟩ := T.obj _ _ st7 b hb
          exact (pinned b hb o q).2
      cases b with
      | false =>
        simp only [Bool.false_eq_true, if_false] at q9 ⊢
        exact fin I9 q9
      | true =>
        simp only [if_true] at q9 ⊢
        intro k' Q' hk'
        exact pl _ s9 σ8 H9 Nx' k' Q' I9 q9 fun s10 H10 I10 nx => hk' s10 (fin I10 nx)
  rw [yP, yw, yA, ye] at loop
  exact cstart c rfl loop (T.self X.A 0 _ _ _ st4 loop)
section
variable {X : Cx} {elt tg iter : Expr} {ifs : List Expr} {rest : List Comprehension} {scope : Scope} {own : List (Str × Nat)} {pos : Pos} {wi : TI} {g : Blk → TG} {tt : Blk → TT} {t : Blk → Addr → L2.St → Hp → (Hp → Prop) → Prop}
theorem pe_comp (ha : ∀ c ∈ rest, c.is_async = 0) (hc : X.calm = true) (hN : X.N.Nodup) (hi : PI X tg iter wi) (ok : BlkOk X.N X.env.scope scope own) (hg : AtBlk X scope fun b Y => PG Y tg (g b)) (ht : AtBlk X scope fun b Y => PTs Y ifs (tt b))
    (hr : AtBlk X scope fun b Y => ∀ p, PL Y (.ListComp elt (⟨tg, iter, ifs, 0⟩ :: rest) scope pos) (⟨tg, iter, ifs, 0⟩ :: rest) (emitL elt) (.ref p) 1 (t b p)) (hs : ∀ x, foldedSetIterable iter X.env x = pure x) :
    PE X (.ListComp elt (⟨tg, iter, ifs, 0⟩ :: rest) scope pos) (tCompL wi g tt t (own.map (·.2))) := by
  refine ⟨fun pins s σ H Q I h => ?_⟩
  rw [eval_ListComp]
  refine comp_core (cmpL elt _ scope pos (fun c hc => ?_)) hc hN I hi ok hg ht hr hs h fun p C s' m H' I' q hn f => ⟨m, hn, fun h'' sb => ?_⟩
  · rcases List.mem_cons.mp hc with rfl | hc
    · rfl
    · exact ha c hc
  · obtain ⟨f0, f1, f2, f3, f4, f5⟩ := f
    exact ⟨.ref p, H', I'.turned (t' := s'.toks) (fun b o hb e => (sb.2 b hb).trans e) f0 f1 f3 f4 f5, rfl, q⟩
end
end Fx
-- Fx11
namespace Fx
open PySem PySem.Spec L2
def S.wipe (s : S) : List Nat → S
  | [] => s
  | i :: vs => (s.wipe vs).put i .no
def Wn (W : Wt) (vs : List Nat) : Prop := ∀ i ∈ vs, W.ow i = none
section
variable {E : Ev} {G : Cfg} {W : Wt} {H : Hp} {σ : L2.St} {s : S} {i : Nat} {vs : List Nat}
theorem del_none (h : W.ow i = none) : W.del i = W := by
  obtain ⟨ow, tn⟩ := W
  unfold Wt.del
  congr 1
  funext j
  by_cases e : j = i
  · subst e; simp; exact h.symm
  · simp [e]
theorem Rel.clr (R : Rel E G W H σ s) (h : W.ow i = none) : Rel E G W H (σ.set i none) (s.put i .no) where
  len := by simp [S.put, R.len]
  fr := R.fr
  val := fun j d q => by
    rcases put_get q with ⟨rfl, e, hl⟩ | ⟨hj, q⟩
    · cases e
    · rw [List.getElem?_set_ne (Ne.symm hj)]; exact R.val j d q
  own := fun j d q => by
    rcases put_get q with ⟨rfl, e, hl⟩ | ⟨hj, q⟩
    · cases e
    · rw [List.getElem?_set_ne (Ne.symm hj)]; exact R.own j d q
  dom := fun j a q => by
    obtain ⟨h1, h2, h3, d, h4⟩ := R.dom j a q
    have hj : j ≠ i := fun z => by rw [z, h] at q; cases q
    exact ⟨h1, h2, h3, d, by simp [S.put, List.getElem?_set_ne (Ne.symm hj), h4]⟩
  inj := R.inj
  obj := R.obj
  tow := R.tow
  tnc := fun j q => by
    rcases put_get q with ⟨rfl, e, hl⟩ | ⟨hj, q⟩
    · cases e
    · rw [List.getElem?_set_ne (Ne.symm hj)]; exact R.tnc j q
  rwc := fun j q => by
    rcases put_get q with ⟨rfl, e, hl⟩ | ⟨hj, q⟩
    · cases e
    · rw [List.getElem?_set_ne (Ne.symm hj)]; exact R.rwc j q
  noc := fun j q => by
    rcases put_get q with ⟨rfl, e, hl⟩ | ⟨hj, q⟩
    · rw [R.len] at hl; simp [hl]
    · rw [List.getElem?_set_ne (Ne.symm hj)]; exact R.noc j q
theorem Rel.wipe : ∀ {vs : List Nat}, Rel E G W H σ s → Wn W vs → Rel E G W H (L2.wipe σ vs) (s.wipe vs)
  | [], R, _ => R
  | v :: vs, R, h => (Rel.wipe R fun i hi => h i (List.mem_cons_of_mem _ hi)).clr (h v List.mem_cons_self)
theorem wipe_get (s : S) {j : Nat} : ∀ {vs : List Nat}, (s.wipe vs).rho[j]? = if j ∈ vs then (s.rho[j]?).map (fun _ => C.no) else s.rho[j]?
  | [] => by simp [S.wipe]
  | v :: vs => by
    unfold S.wipe S.put
    by_cases e : j = v
    · subst e
      by_cases hl : j < (s.wipe vs).rho.length
      · rw [List.getElem?_set_self hl, if_pos List.mem_cons_self]
        have : j < s.rho.length := by
          have q := wipe_get s (j := j) (vs := vs)
          rw [List.getElem?_eq_getElem hl] at q
          by_cases z : j < s.rho.length
          · exact z
          · rw [List.getElem?_eq_none (Nat.le_of_not_lt z)] at q
            split at q <;> cases q
        rw [List.getElem?_eq_getElem this]
        rfl
      · rw [List.getElem?_eq_none (by simpa using Nat.le_of_not_lt hl), if_pos List.mem_cons_self]
        have q := wipe_get s (j := j) (vs := vs)
        rw [List.getElem?_eq_none (Nat.le_of_not_lt hl)] at q
        split at q
        · exact q
        · rw [← q]; rfl
    · rw [List.getElem?_set_ne (Ne.symm e), wipe_get s (vs := vs)]
      by_cases m : j ∈ vs
      · rw [if_pos m, if_pos (List.mem_cons_of_mem _ m)]
      · rw [if_neg m, if_neg fun z => (List.mem_cons.mp z).elim e m]
theorem wipe_set {x : Option V} : ∀ {vs : List Nat} {i : Nat}, i ∈ vs → L2.wipe (σ.set i x) vs = L2.wipe σ vs
  | v :: vs, i, h => by
    by_cases m : i ∈ vs
    · show (L2.wipe (σ.set i x) vs).set v none = (L2.wipe σ vs).set v none
      rw [wipe_set m]
    · have e : i = v := (List.mem_cons.mp h).elim id fun z => absurd z m
      subst e
      apply List.ext_getElem?
      intro j
      show ((L2.wipe (σ.set i x) vs).set i none)[j]? = ((L2.wipe σ vs).set i none)[j]?
      by_cases ej : j = i
      · subst ej
        by_cases hl : j < σ.length
        · rw [List.getElem?_set_self (by rw [wipe_length]; simpa using hl), List.getElem?_set_self (by rw [wipe_length]; exact hl)]
        · rw [List.getElem?_eq_none (by rw [List.length_set, wipe_length]; simpa using Nat.le_of_not_lt hl), List.getElem?_eq_none (by rw [List.length_set, wipe_length]; exact Nat.le_of_not_lt hl)]
      · rw [List.getElem?_set_ne (Ne.symm ej), List.getElem?_set_ne (Ne.symm ej)]
        by_cases mj : j ∈ vs
        · have key : ∀ τ : L2.St, τ.length = σ.length → (L2.wipe τ vs)[j]? = if j < σ.length then some none else none := fun τ hτ => by
            have q : ∀ (v' : V), (L2.wipe τ vs)[j]? ≠ some (some v') := fun v' z => (wipe_some z).2 mj
            by_cases hl : j < σ.length
            · rw [if_pos hl]
              have hl' : j < (L2.wipe τ vs).length := by rw [wipe_length, hτ]; exact hl
              rw [List.getElem?_eq_getElem hl'] at q ⊢
              cases z : (L2.wipe τ vs)[j] with
              | none => rfl
              | some v' => exact absurd (by rw [z]) (q v')
            · rw [if_neg hl]
              exact List.getElem?_eq_none (by rw [wipe_length, hτ]; exact Nat.le_of_not_lt hl)
          rw [key _ (by simp), key _ rfl]
        · rw [wipe_out mj, wipe_out mj, List.getElem?_set_ne (Ne.symm ej)]
end
/-! ### targets of a comprehension -/
def SndGc (E : Ev) (vs : List Nat) (t : TG) (g : Fg) : Prop := ∀ G W σ H s v d s', Rel E G W H σ s → Wn W vs → Rep E (Av G W) H v d → g d s = some s' → ∀ Q : L2.St → Hp → Prop,
  (∀ σ', Rel E G W H σ' s' → L2.wipe σ' vs = L2.wipe σ vs → Q σ' H) → t v σ H Q
def SndGcs (E : Ev) (vs : List Nat) (t : TGs) (g : List D → S → Option S) : Prop := ∀ G W σ H s v d s', Rel E G W H σ s → Wn W vs → Reps E (Av G W) H v d → g d s = some s' → ∀ Q : L2.St → Hp → Prop,
  (∀ σ', Rel E G W H σ' s' → L2.wipe σ' vs = L2.wipe σ vs → Q σ' H) → t v σ H Q
structure VGc (X : Cx) (vs : List Nat) (tg : Expr) (t : TG) (g : Fg) : Prop where
  p : PG X tg t
  s : SndGc (evX X) vs t g
structure VGcs (X : Cx) (vs : List Nat) (tg : List Expr) (t : TGs) (g : List D → S → Option S) : Prop where
  p : PGs X tg t
  s : SndGcs (evX X) vs t g
section
variable {X : Cx} {vs : List Nat} {e : Expr} {es : List Expr} {t : TG} {u : TGs} {g : Fg} {gs : List D → S → Option S} {pos : Pos}
theorem vgc_name (i : Nat) {x : Str} (hN : X.N.Nodup) (hm : i ∈ vs := by decide) (hi : X.N[i]? = some x := by rfl) (hx : Loc X.env.scope x := by first | exact Or.inl rfl | exact Or.inr rfl) (hf : X.fn x = true ∨ X.env.scope.names.lookup x = some .local := by first | exact .inl rfl | exact .inr rfl) : VGc X vs (.Name x pos) (gName i) (gNm i) :=
  ⟨pg_name hN hi hx hf, fun G W σ H s v d s' R wn r hf Q hq => by
    cases hf
    have R' := R.put (i := i) r
    rw [del_none (wn i hm)] at R'
    exact hq _ R' (wipe_set hm)⟩
theorem vgcs_nil : VGcs X vs [] gNil gsNil := ⟨pgs_nil, fun G W σ H s v d s' R wn r hf Q hq => by
  cases r with
  | nil => cases hf; exact ⟨rfl, hq _ R rfl⟩
  | cons _ _ => cases hf⟩
theorem vgcs_cons (h : VGc X vs e t g) (hr : VGcs X vs es u gs) (hs : (assignEach (e :: es) X.env).map (·.2) = assign e X.env :: (assignEach es X.env).map (·.2) := by rfl) : VGcs X vs (e :: es) (gCons t u) (gsCons g gs) := by
  refine ⟨pgs_cons h.p hr.p hs, fun G W σ H s v d s' R wn r hf Q hq => ?_⟩
  cases r with
  | nil => cases hf
  | cons r1 rt =>
    unfold gsCons at hf
    dsimp only at hf
    simp only [Option.bind_eq_some_iff] at hf
    obtain ⟨s1, h1, h2⟩ := hf
    refine ⟨_, _, rfl, h.s G W σ H s _ _ s1 R wn r1 h1 _ fun σ' R' e1 => ?_⟩
    exact hr.s G W σ' H s1 _ _ s' R' wn rt h2 _ fun σ2 R2 e2 => hq σ2 R2 (e2.trans e1)
theorem vgc_tup {k n : Nat} (hc : X.calm = true) (h : VGcs X vs es u gs) (hn : (assignEach es X.env).length = n := by rfl) (hst : (assignEach es X.env).findIdx? (·.1) = none := by rfl) : VGc X vs (.Tuple es k pos) (gTup X.K n u) (gTp n gs) := by
  refine ⟨pg_tup hc h.p hn hst, fun G W σ H s v d s' R wn r hf Q hq => ?_⟩
  cases r <;> simp only [gTp] at hf
  all_goals first | (cases hf; done) | skip
  rename_i a xs ds e1 r1
  split at hf
  · rename_i hl
    exact ⟨a, xs, rfl, e1.sqt, by rw [r1.length]; exact hl, h.s G W σ H s _ _ s' R wn r1 hf _ hq⟩
  · cases hf
end
end Fx
-- Fx12
namespace Fx
open PySem PySem.Spec L2
def Cfg.lay (G : Cfg) (p : Addr) (o : HO) : Cfg := { H0 := upd G.H0 p o, O := fun a => G.O a ∨ a = p }
theorem wipe_at (σ : L2.St) (vs : List Nat) (j : Nat) : (L2.wipe σ vs)[j]? = if j ∈ vs then (if j < σ.length then some none else none) else σ[j]? := by
  by_cases m : j ∈ vs
  · rw [if_pos m]
    have q : ∀ (v' : V), (L2.wipe σ vs)[j]? ≠ some (some v') := fun v' z => (wipe_some z).2 m
    by_cases hl : j < σ.length
    · rw [if_pos hl]
      have hl' : j < (L2.wipe σ vs).length := by rw [wipe_length]; exact hl
      rw [List.getElem?_eq_getElem hl'] at q ⊢
      cases z : (L2.wipe σ vs)[j] with
      | none => rfl
      | some v' => exact absurd (by rw [z]) (q v')
    · rw [if_neg hl]
      exact List.getElem?_eq_none (by rw [wipe_length]; exact Nat.le_of_not_lt hl)
  · rw [if_neg m, wipe_out m]
theorem wipe_idem (σ : L2.St) (vs : List Nat) : L2.wipe (L2.wipe σ vs) vs = L2.wipe σ vs := by
  apply List.ext_getElem?
  intro j
  rw [wipe_at, wipe_length]
  by_cases m : j ∈ vs
  · rw [if_pos m, wipe_at, if_pos m]
  · rw [if_neg m]
section
variable {E : Ev} {G : Cfg} {W : Wt} {H H1 H2 : Hp} {σ : L2.St} {s : S} {p : Addr} {o o' : HO}
theorem Rel.to_lay (R : Rel E G W H σ s) (h : H p = none) (hnt : NT o := by exact fun _ z => nomatch z) : Rel E (G.lay p o) W (upd H p o) σ s := by
  have B := R.laid (o := o) h hnt
  have R0 := R.fresh0 h
  exact {
    len := B.len
    fr := fun a u e t => by
      by_cases z : a = p
      · subst z
        have e' : upd G.H0 a o a = some u := e
        rw [upd_same] at e' ⊢
        exact e'
      · have e' : upd G.H0 p o a = some u := e
        rw [upd_ne z] at e'
        exact B.fr a u e' t
    val := B.val
    own := B.own
    dom := fun i a e => by
      obtain ⟨h1, h2, h3, h4⟩ := B.dom i a e
      refine ⟨?_, h2, h3, h4⟩
      show upd G.H0 p o a = none
      rw [upd_ne fun z => h3 (.inr z)]
      exact h1
    inj := B.inj
    obj := B.obj
    tow := B.tow
    tnc := B.tnc
    rwc := B.rwc
    noc := B.noc }
theorem Rel.of_lay (R : Rel E (G.lay p o) W H σ s) (h0 : G.H0 p = none) : Rel E (G.bar p) W H σ s where
  len := R.len
  fr := fun a u e t => R.fr a u (by
    show upd G.H0 p o a = some u
    have e' : G.H0 a = some u := e
    rw [upd_ne (ne_of_none e' h0)]
    exact e') t
  val := R.val
  own := R.own
  dom := fun i a e => by
    obtain ⟨h1, h2, h3, h4⟩ := R.dom i a e
    refine ⟨?_, h2, h3, h4⟩
    have h1' : upd G.H0 p o a = none := h1
    rw [upd_ne fun z => h3 (.inr z)] at h1'
    exact h1'
  inj := R.inj
  obj := R.obj
  tow := R.tow
  tnc := R.tnc
  rwc := R.rwc
  noc := R.noc
theorem Rel.at_lay (R : Rel E (G.lay p o) W H σ s) (ht : ¬ TownA W.tn p) : H p = some o := R.fr p o upd_same ht
/-- the object that is laid there is changed -/
theorem Rel.lay_put (R : Rel E (G.lay p o) W H σ s) (ht : ¬ TownA W.tn p) (hnt : NT o' := by exact fun _ z => nomatch z) : Rel E (G.lay p o') W (upd H p o') σ s := by
  have av : Av (G.lay p o) W p := .inl (.inr rfl)
  have fz : Fz (Av (G.lay p o) W) (Av (G.lay p o') W) H (upd H p o') := fun b u n e => ⟨n, by rw [upd_ne (fun z => n (by rw [z]; exact av))]; exact e⟩
  exact {
    len := R.len
    fr := fun a u e t => by
      by_cases z : a = p
      · subst z
        have e' : upd G.H0 a o' a = some u := e
        rw [upd_same] at e' ⊢
        exact e'
      · have e' : upd G.H0 p o' a = some u := e
        rw [upd_ne z] at e' ⊢
        exact R.fr a u (by show upd G.H0 p o a = some u; rw [upd_ne z]; exact e') t
    val := fun i d h => let ⟨v, e1, q⟩ := R.val i d h; ⟨v, e1, q.fz fz⟩
    own := fun i d h => by
      obtain ⟨a, e1, e2, q⟩ := R.own i d h
      refine ⟨a, e1, e2, q.fz fz fun u e => ?_⟩
      rw [upd_ne fun z => (R.dom i a e1).2.2.1 (.inr z)]
      exact e
    dom := fun i a e => by
      obtain ⟨h1, h2, h3, h4⟩ := R.dom i a e
      refine ⟨?_, h2, h3, h4⟩
      have h1' : upd G.H0 p o a = none := h1
      show upd G.H0 p o' a = none
      rw [upd_ne fun z => h3 (.inr z)] at h1' ⊢
      exact h1'
    inj := R.inj
    obj := fun a h => by
      by_cases z : a = p
      · rw [z]; exact ⟨o', upd_same, hnt⟩
      · rw [upd_ne z]; exact R.obj a h
    tow := R.tow.same fun a u h e => by
      rw [upd_ne fun z => ht (by rw [← z]; exact h)]
      exact e
    tnc := R.tnc
    rwc := R.rwc
    noc := R.noc }
end
/-! ### the clauses as functions -/
abbrev Fp := List D → S → Option (List D × S)
def SndP (E : Ev) (p : Addr) (t : L2.St → Hp → (Hp → Prop) → Prop) (f : Fp) : Prop := ∀ (G : Cfg) (W : Wt) (σ : L2.St) (H : Hp) (s : S) (xs : List V) (acc acc' : List D) (s' : S), Rel E (G.lay p (.lst xs)) W H σ s → ¬ TownA W.tn p → Reps E (Av (G.bar p) W) H xs acc → f acc s = some (acc', s') → ∀ Nx : Hp → Prop,
  (∀ (ys : List V) (H' : Hp), Rel E (G.lay p (.lst ys)) W H' σ s' → Fz (Av (G.bar p) W) (Av (G.bar p) W) H H' → Reps E (Av (G.bar p) W) H' ys acc' → Nx H') → t σ H Nx
def pEmit (f : Fe) : Fp := fun acc s => (f s).bind fun (y, s1) => if acc.length < 100000 then some (acc ++ [y], s1) else none
theorem snd_emit {E : Ev} {p : Addr} {te : TE} {f : Fe} (sn : SndE E te f) : SndP E p (fun σ H Nx => te σ H fun y H1 => ∃ xs, H1 p = some (.lst xs) ∧ xs.length < sizeLine ∧ Nx (upd H1 p (.lst (xs ++ [y])))) (pEmit f) := by
  intro G W σ H s xs acc acc' s' R ht rs hf Nx hn
  unfold pEmit at hf
  simp only [Option.bind_eq_some_iff] at hf
  obtain ⟨⟨y, s1⟩, e1, e2⟩ := hf
  dsimp only at e2
  split at e2
  · rename_i hl
    cases e2
    refine sn (G.lay p (.lst xs)) W σ H s y _ R e1 _ fun v H1 R1 z1 p1 => ⟨xs, R1.at_lay ht, line_lt (by rw [rs.length]; exact hl), ?_⟩
    have av : Av (G.bar p) W p := .inl (.inr rfl)
    refine hn _ _ (R1.lay_put ht) (z1.trans (Fz.turn av)) (((rs.fz z1).append (.cons p1 .nil)).fz (Fz.turn av))
  · cases e2
def clLoop (g : Fg) (ft : Fe) (vs : List Nat) (inner : Fp) : List D → Fp
  | [], acc, s => some (acc, s)
  | d :: r, acc, s => (g d s).bind fun s1 => (ft s1).bind fun (b, s2) => match b with
    | .bool true => (inner acc s2).bind fun (acc', s3) => clLoop g ft vs inner r acc' (s3.wipe vs)
    | .bool false => clLoop g ft vs inner r acc (s2.wipe vs)
    | _ => none
theorem snd_turns {E : Ev} {G : Cfg} {W : Wt} {H1 H2 : Hp} {σ : L2.St} {s0 s' : S} {p : Addr} {xs : List V} {acc acc' ds : List D} {A0 : Addr → Prop} {J : It} {Gd : Hp → Prop} {Y : Nat → Hp → V → Hp → Prop} {tg : TG} {g : Fg} {tt : TT} {ft : Fe} {t : L2.St → Hp → (Hp → Prop) → Prop} {inner : Fp} {vs : List Nat} {Nx : Hp → Prop}
    (sg : SndGc E vs tg g) (st : SndT E tt ft) (sp : SndP E p t inner) (wl : Wlk E A0 H1 J ds Gd Y) (z0 : Fz A0 (Av (G.bar p) W) H1 H2) (R2 : Rel E (G.lay p (.lst xs)) W H2 (L2.wipe σ vs) s0) (ht : ¬ TownA W.tn p) (wn : Wn W vs) (rs : Reps E (Av (G.bar p) W) H2 xs acc)
    (hl : clLoop g ft vs inner ds acc s0 = some (acc', s')) (hn : ∀ ys H', Rel E (G.lay p (.lst ys)) W H' (L2.wipe σ vs) s' → Fz (Av (G.bar p) W) (Av (G.bar p) W) H2 H' → Reps E (Av (G.bar p) W) H' ys acc' → Nx H') : tTurns J tg tt t vs σ H2 Nx := by
  refine ⟨fun i m H => m = ds.length - i ∧ i ≤ ds.length ∧ ∃ ys acci si, Rel E (G.lay p (.lst ys)) W H (L2.wipe σ vs) si ∧ Fz (Av (G.bar p) W) (Av (G.bar p) W) H2 H ∧ Reps E (Av (G.bar p) W) H ys acci ∧ clLoop g ft vs inner (ds.drop i) acci si = some (acc', s'), ⟨ds.length, by simp, Nat.zero_le _, xs, acc, s0, R2, Fz.refl, rs, hl⟩, ?_⟩
  rintro i m H ⟨rfl, hi, ys, acci, si, R, z, r, hc⟩
  have zz : Fz A0 (Av (G.bar p) W) H1 H := z0.trans z
  have gd := wl.keep _ H zz
  by_cases hlt : i < ds.length
  · refine .inr ⟨wl.walk.goes i H hlt gd, fun H' => ∃ ys acci si, Rel E (G.lay p (.lst ys)) W H' (L2.wipe σ vs) si ∧ Fz (Av (G.bar p) W) (Av (G.bar p) W) H2 H' ∧ Reps E (Av (G.bar p) W) H' ys acci ∧ clLoop g ft vs inner (ds.drop (i + 1)) acci si = some (acc', s'), fun H' q => ⟨ds.length - (i + 1), by omega, rfl, hlt, q⟩, fun x H' hy => ?_⟩
    obtain ⟨sm, d, hd, rd⟩ := wl.item _ i H x H' zz R.fre hlt (wl.walk.yields i H x H' hlt gd hy)
    have zs : Fz (Av (G.bar p) W) (Av (G.bar p) W) H H' := Fz.of_same sm
    rw [List.drop_eq_getElem_cons hlt] at hc
    have ed : ds[i] = d := by rw [List.getElem?_eq_getElem hlt] at hd; exact Option.some.inj hd
    rw [ed] at hc
    unfold clLoop at hc
    simp only [Option.bind_eq_some_iff] at hc
    obtain ⟨s1, e1, ⟨b, s2⟩, e2, e3⟩ := hc
    refine sg _ W _ H' si x d s1 (R.same sm) wn rd e1 _ fun σ2 R1 hw => ⟨by rw [hw, wipe_idem], ?_⟩
    rw [wipe_idem] at hw
    dsimp only at e3
    split at e3
    · refine st _ W σ2 H' s1 true s2 R1 e2 _ fun H3 R3 z3 => ?_
      rw [if_pos rfl]
      simp only [Option.bind_eq_some_iff] at e3
      obtain ⟨⟨acc2, s3⟩, e4, e5⟩ := e3
      refine sp G W σ2 H3 s2 ys acci acc2 s3 R3 ht ((r.fz zs).fz z3) e4 _ fun ys' H4 R4 z4 r4 => ⟨ys', acc2, s3.wipe vs, ?_, ((z.trans zs).trans z3).trans z4, r4, e5⟩
      rw [← hw]
      exact R4.wipe wn
    · refine st _ W σ2 H' s1 false s2 R1 e2 _ fun H3 R3 z3 => ?_
      rw [if_neg Bool.false_ne_true]
      refine ⟨ys, acci, s2.wipe vs, ?_, (z.trans zs).trans z3, (r.fz zs).fz z3, e3⟩
      rw [← hw]
      exact R3.wipe wn
    · cases e3
  · have e : i = ds.length := by omega
    subst e
    rw [List.drop_length] at hc
    unfold clLoop at hc
    cases hc
    exact .inl ⟨wl.walk.stops H gd, hn ys H R z r⟩
def allNo (s : S) (vs : List Nat) : Bool := vs.all fun i => match s.rho[i]? with
  | some .no => true
  | _ => false
theorem allNo_at {s : S} {vs : List Nat} (h : allNo s vs = true) : ∀ i ∈ vs, s.rho[i]? = some .no := fun i hi => by
  have q := List.all_eq_true.mp h i hi
  split at q
  · assumption
  · cases q
def pFor (fi : Fa) (g : Fg) (ft : Fe) (vs : List Nat) (inner : Fp) : Fp := fun acc s => if allNo s vs = true then (fi s).bind fun (ds, s1) => clLoop g ft vs inner ds acc s1 else none
theorem snd_clause {E : Ev} {p : Addr} {wi : TI} {fi : Fa} {tg : TG} {g : Fg} {tt : TT} {ft : Fe} {t : L2.St → Hp → (Hp → Prop) → Prop} {inner : Fp} {vs : List Nat} (si : SndI E wi fi) (sg : SndGc E vs tg g) (st : SndT E tt ft) (sp : SndP E p t inner) :
    SndP E p (fun σ H Nx => (∀ i ∈ vs, σ[i]? = some none) ∧ tClause wi tg tt t vs σ H Nx) (pFor fi g ft vs inner) := by
  intro G W σ H s xs acc acc' s' R ht rs hf Nx hn
  unfold pFor at hf
  split at hf
  · rename_i hno
    simp only [Option.bind_eq_some_iff] at hf
    obtain ⟨⟨ds, s1⟩, e1, e2⟩ := hf
    have hv : ∀ i ∈ vs, σ[i]? = some none := fun i hi => R.noc i (allNo_at hno i hi)
    have wn : Wn W vs := fun i hi => by
      cases q : W.ow i with
      | none => rfl
      | some a =>
        obtain ⟨_, _, _, d, h4⟩ := R.dom i a q
        rw [allNo_at hno i hi] at h4; cases h4
    have ew : L2.wipe σ vs = σ := wipe_none hv
    refine ⟨hv, si _ W σ H s ds s1 R e1 _ fun J H1 Gd Y R1 z1 wl => ?_⟩
    refine snd_turns (G := G) sg st sp wl Fz.refl (by rw [ew]; exact R1) ht wn (rs.fz z1) e2 fun ys H' R' z' r' => ?_
    rw [ew] at R'
    exact hn ys H' R' (z1.trans z') r'
  · cases hf
end Fx
-- Fx13
namespace Fx
open PySem PySem.Spec L2
/-- the state behind a comprehension: its own names are as they were -/
def S.mix (s1 s2 : S) (vs : List Nat) : S := ⟨s2.rho.mapIdx fun j c => if j ∈ vs then s1.rho.getD j .no else c, s2.tw⟩
def noOwn (s : S) (vs : List Nat) : Bool := vs.all fun i => match s.rho[i]? with
  | some (.own _) => false
  | some .tn => false
  | some .rw => false
  | _ => true
theorem noOwn_at {s : S} {vs : List Nat} (h : noOwn s vs = true) {i : Nat} (hi : i ∈ vs) : (∀ d, s.rho[i]? ≠ some (.own d)) ∧ s.rho[i]? ≠ some .tn ∧ s.rho[i]? ≠ some .rw := by
  have q := List.all_eq_true.mp h i hi
  refine ⟨fun d z => ?_, fun z => ?_, fun z => ?_⟩ <;> rw [z] at q <;> cases q
theorem mix_get {s1 s2 : S} {vs : List Nat} {j : Nat} (hl : s1.rho.length = s2.rho.length) : (s1.mix s2 vs).rho[j]? = if j ∈ vs then s1.rho[j]? else s2.rho[j]? := by
  show (s2.rho.mapIdx _)[j]? = _
  rw [List.getElem?_mapIdx]
  by_cases h : j < s2.rho.length
  · rw [List.getElem?_eq_getElem h]
    have h1 : j < s1.rho.length := by rw [hl]; exact h
    by_cases m : j ∈ vs
    · simp [m, List.getElem?_eq_getElem h1]
    · simp [m]
  · have h1 : ¬ j < s1.rho.length := by rw [hl]; exact h
    rw [List.getElem?_eq_none (Nat.le_of_not_lt h), List.getElem?_eq_none (Nat.le_of_not_lt h1)]
    simp
section
variable {E : Ev} {G : Cfg} {W : Wt} {H1 H2 : Hp} {σ : L2.St} {s1 s2 : S} {p : Addr} {vs : List Nat}
theorem Rel.mix (R1 : Rel E G W H1 σ s1) (R2 : Rel E (G.bar p) W H2 (L2.wipe σ vs) s2) (hv : noOwn s1 vs = true) (z : Fz (Av G W) (Av (G.bar p) W) H1 H2) : Rel E (G.bar p) W H2 σ (s1.mix s2 vs) := by
  have hl : s1.rho.length = s2.rho.length := by rw [R1.len, R2.len, wipe_length]
  have key : ∀ {j : Nat} {c : C}, (s1.mix s2 vs).rho[j]? = some c → (j ∈ vs ∧ s1.rho[j]? = some c) ∨ (j ∉ vs ∧ s2.rho[j]? = some c ∧ (L2.wipe σ vs)[j]? = σ[j]?) := fun {j c} q => by
    rw [mix_get hl] at q
    by_cases m : j ∈ vs
    · rw [if_pos m] at q; exact .inl ⟨m, q⟩
    · rw [if_neg m] at q; exact .inr ⟨m, q, by rw [wipe_at, if_neg m]⟩
  exact {
    len := by show (s2.rho.mapIdx _).length = _; rw [List.length_mapIdx, ← hl, R1.len]
    fr := R2.fr
    val := fun j d q => by
      rcases key q with ⟨m, q⟩ | ⟨m, q, w⟩
      · obtain ⟨v, e1, e2⟩ := R1.val j d q
        exact ⟨v, e1, e2.fz z⟩
      · rw [← w]; exact R2.val j d q
    own := fun j d q => by
      rcases key q with ⟨m, q⟩ | ⟨m, q, w⟩
      · exact absurd q ((noOwn_at hv m).1 d)
      · rw [← w]; exact R2.own j d q
    dom := fun j a q => by
      obtain ⟨h1, h2, h3, d, h4⟩ := R2.dom j a q
      refine ⟨h1, h2, h3, d, ?_⟩
      rw [mix_get hl]
      by_cases m : j ∈ vs
      · obtain ⟨_, _, _, d', h4'⟩ := R1.dom j a q
        exact absurd h4' ((noOwn_at hv m).1 d')
      · rw [if_neg m]; exact h4
    inj := R2.inj
    obj := R2.obj
    tow := R2.tow
    tnc := fun j q => by
      rcases key q with ⟨m, q⟩ | ⟨m, q, w⟩
      · exact absurd q (noOwn_at hv m).2.1
      · rw [← w]; exact R2.tnc j q
    rwc := fun j q => by
      rcases key q with ⟨m, q⟩ | ⟨m, q, w⟩
      · exact absurd q (noOwn_at hv m).2.2
      · rw [← w]; exact R2.rwc j q
    noc := fun j q => by
      rcases key q with ⟨m, q⟩ | ⟨m, q, w⟩
      · exact R1.noc j q
      · rw [← w]; exact R2.noc j q }
end
def eComp (fi : Fa) (g : Fg) (ft : Fe) (vs : List Nat) (inner : Fp) : Fe := fun s => (fi s).bind fun (ds, s1) => if noOwn s1 vs = true then (clLoop g ft vs inner ds [] (s1.wipe vs)).map fun (acc, s2) => (.list acc, s1.mix s2 vs) else none
theorem snd_comp {E : Ev} {wi : TI} {fi : Fa} {tg : Blk → TG} {g : Fg} {tt : Blk → TT} {ft : Fe} {t : Blk → Addr → L2.St → Hp → (Hp → Prop) → Prop} {inner : Fp} {vs : List Nat} (si : SndI E wi fi) (sg : ∀ b, SndGc E vs (tg b) g) (st : ∀ b, SndT E (tt b) ft) (sp : ∀ b p, SndP E p (t b p) inner) :
    SndF E (tCompL wi tg tt t vs) (eComp fi g ft vs inner) := by
  intro G W σ H s d s' R hf Q hq
  unfold eComp at hf
  simp only [Option.bind_eq_some_iff] at hf
  obtain ⟨⟨ds, s1⟩, e1, e2⟩ := hf
  dsimp only at e2
  split at e2
  · rename_i hno
    simp only [Option.map_eq_some_iff] at e2
    obtain ⟨⟨acc, s2⟩, e3, e4⟩ := e2
    cases e4
    refine si G W σ H s ds s1 R e1 _ fun J H1 Gd Y R1 z1 wl p hp b => ?_
    have hp0 : H p = none := none_back R z1 R1.there hp
    have ht : ¬ TownA W.tn p := fun z => R1.free hp (.inr (.inr z))
    have wn : Wn W vs := fun i hi => by
      cases q : W.ow i with
      | none => rfl
      | some a =>
        obtain ⟨_, _, _, d, h4⟩ := R1.dom i a q
        exact absurd h4 ((noOwn_at hno hi).1 d)
    have R2 : Rel E (G.lay p (.lst [])) W (upd H1 p (.lst [])) (L2.wipe σ vs) (s1.wipe vs) := (R1.to_lay (o := .lst []) hp).wipe wn
    have z2 : Fz (Av G W) (Av (G.bar p) W) H1 (upd H1 p (.lst [])) := Fz.laid hp G W
    refine snd_turns (G := G) (sg b) (st b) (sp b p) wl z2 R2 ht wn .nil e3 fun ys H' R' z' r' => ?_
    have e0 : G.H0 p = none := R1.fresh0 hp
    refine hq p H' hp0 (R1.mix (R'.of_lay e0) hno (z2.trans z')) (z1.trans (z2.trans z')) ⟨ys, R'.at_lay ht, r'⟩
  · cases e2
/-! ### derivations -/
structure VP (Y : Cx) (e : Expr) (gens : List Comprehension) (elt : Expr) (d : Nat) (f : Fp) : Prop where
  ex : ∀ p : Addr, ∃ t, PL Y e gens (emitL elt) (.ref p) d t ∧ SndP (evX Y) p t f
structure VTs (Y : Cx) (ifs : List Expr) (f : Fe) : Prop where
  ex : ∃ t, PTs Y ifs t ∧ SndT (evX Y) t f
structure VGe (Y : Cx) (vs : List Nat) (tg : Expr) (g : Fg) : Prop where
  ex : ∃ t, VGc Y vs tg t g
structure VGes (Y : Cx) (vs : List Nat) (tg : List Expr) (g : List D → S → Option S) : Prop where
  ex : ∃ t, VGcs Y vs tg t g
section
variable {Y X : Cx} {e elt tg iter : Expr} {es ifs : List Expr} {gens rest : List Comprehension} {d : Nat} {f ft : Fe} {fi : Fa} {g : Fg} {gs : List D → S → Option S} {vs : List Nat} {inner : Fp} {scope : Scope} {own : List (Str × Nat)} {pos p' spos : Pos} {c : Expr}
theorem vge_name (i : Nat) {x : Str} (hN : X.N.Nodup) (hm : i ∈ vs := by decide) (hi : X.N[i]? = some x := by rfl) (hx : Loc X.env.scope x := by first | exact Or.inl rfl | exact Or.inr rfl) (hf : X.fn x = true ∨ X.env.scope.names.lookup x = some .local := by first | exact .inl rfl | exact .inr rfl) : VGe X vs (.Name x pos) (gNm i) := ⟨_, vgc_name i hN hm hi hx hf⟩
theorem vges_nil : VGes X vs [] gsNil := ⟨_, vgcs_nil⟩
theorem vges_cons (h : VGe X vs e g) (hr : VGes X vs es gs) (hs : (assignEach (e :: es) X.env).map (·.2) = assign e X.env :: (assignEach es X.env).map (·.2) := by rfl) : VGes X vs (e :: es) (gsCons g gs) :=
  let ⟨t, a⟩ := h.ex; let ⟨u, b⟩ := hr.ex; ⟨_, vgcs_cons a b hs⟩
theorem vge_tup {k n : Nat} (hc : X.calm = true) (h : VGes X vs es gs) (hn : (assignEach es X.env).length = n := by rfl) (hst : (assignEach es X.env).findIdx? (·.1) = none := by rfl) : VGe X vs (.Tuple es k pos) (gTp n gs) :=
  let ⟨u, b⟩ := h.ex; ⟨_, vgc_tup hc b hn hst⟩
theorem vts_nil : VTs X [] (eC (.bool true)) := ⟨_, pts_nil, fun G W σ H s b s' R hf Q hq => by cases hf; exact hq H R Fz.refl⟩
theorem vts_one (h : VT X c f) : VTs X [c] f := let ⟨t, p, sn⟩ := h.ex; ⟨t, pts_one p, sn⟩
theorem vp_emit (hx : Y.xe = FF) (he : VE Y elt f) (hd : gens[d]? = none := by rfl) : VP Y e gens elt d (pEmit f) := ⟨fun p => let ⟨_, pe, sn⟩ := he.ex; ⟨_, pl_emitL hx hd pe, snd_emit sn⟩⟩
theorem vp_for (k : CmpK e gens (emitL elt)) (hx : Y.xe = FF) (hc : Y.calm = true) (hi : VI Y tg iter fi) (hg : VGe Y vs tg g) (ht : VTs Y ifs ft) (hr : VP Y e gens elt (d + 1) inner) (hd : gens[d]? = some ⟨tg, iter, ifs, 0⟩ := by rfl) (hs : ∀ x, foldedSetIterable iter Y.env x = pure x := by intro _; rfl) : VP Y e gens elt d (pFor fi g ft vs inner) := by
  refine ⟨fun p => ?_⟩
  obtain ⟨wi, pi, si⟩ := hi.ex
  obtain ⟨tt, pt, st⟩ := ht.ex
  obtain ⟨t, pl, sl⟩ := hr.ex p
  obtain ⟨tg', pg⟩ := hg.ex
  exact ⟨_, pl_clause k hx hc hd pi pg.p pt hs pl, snd_clause si pg.s st sl⟩
/-- what a block needs -/
structure BlkV (Y : Cx) (tg : Expr) (ifs : List Expr) (e : Expr) (gens : List Comprehension) (elt : Expr) (vs : List Nat) (g : Fg) (ft : Fe) (inner : Fp) : Prop where
  hg : VGe Y vs tg g
  ht : VTs Y ifs ft
  hr : VP Y e gens elt 1 inner
theorem vf_comp (hc : X.calm = true) (hN : X.N.Nodup) (ok : BlkOk X.N X.env.scope scope own) (hi : VI X tg iter fi)
    (hb : ∀ b : Blk, BlkV (blkAt X scope b) tg ifs (.ListComp elt (⟨tg, iter, ifs, 0⟩ :: rest) scope pos) (⟨tg, iter, ifs, 0⟩ :: rest) elt (own.map (·.2)) g ft inner) (ha : ∀ c ∈ rest, c.is_async = 0 := by decide) (hs : ∀ x, foldedSetIterable iter X.env x = pure x := by intro _; rfl) :
    VF X (.ListComp elt (⟨tg, iter, ifs, 0⟩ :: rest) scope pos) (eComp fi g ft (own.map (·.2)) inner) := by
  obtain ⟨wi, pi, si⟩ := hi.ex
  have a1 : ∀ b, ∃ t, VGc (blkAt X scope b) (own.map (·.2)) tg t g := fun b => (hb b).hg.ex
  have a2 : ∀ b, ∃ t, PTs (blkAt X scope b) ifs t ∧ SndT (evX X) t ft := fun b => (hb b).ht.ex
  have a3 : ∀ b, ∀ p, ∃ t, PL (blkAt X scope b) (.ListComp elt (⟨tg, iter, ifs, 0⟩ :: rest) scope pos) (⟨tg, iter, ifs, 0⟩ :: rest) (emitL elt) (.ref p) 1 t ∧ SndP (evX X) p t inner := fun b => (hb b).hr.ex
  refine ⟨_, pe_comp ha hc hN pi ok (fun b => (a1 b).choose_spec.p) (fun b => (a2 b).choose_spec.1) (fun b p => (a3 b p).choose_spec.1) hs, ?_⟩
  exact snd_comp si (fun b => (a1 b).choose_spec.s) (fun b => (a2 b).choose_spec.2) (fun b p => (a3 b p).choose_spec.2)
/-- y = [..], where the list is put to y ahead of the names' return -/
theorem ps_setComp {i : Nat} {y : Str} {py : Pos} {wi : TI} {g : Blk → TG} {tt : Blk → TT} {t : Blk → Addr → L2.St → Hp → (Hp → Prop) → Prop} (hc : X.calm = true) (hN : X.N.Nodup) (hy : X.N[i]? = some y) (hyl : X.env.scope.names.lookup y = some .local)
    (hsw : swapsWith (.ListComp elt (⟨tg, iter, ifs, 0⟩ :: rest) scope pos) (some (.Name y py)) spos.line X.env = pure true) (ha : ∀ c ∈ rest, c.is_async = 0) (hi : PI X tg iter wi) (ok : BlkOk X.N X.env.scope scope own) (hg : AtBlk X scope fun b Y => PG Y tg (g b)) (ht : AtBlk X scope fun b Y => PTs Y ifs (tt b))
    (hr : AtBlk X scope fun b Y => ∀ p, PL Y (.ListComp elt (⟨tg, iter, ifs, 0⟩ :: rest) scope pos) (⟨tg, iter, ifs, 0⟩ :: rest) (emitL elt) (.ref p) 1 (t b p)) (hs : ∀ x, foldedSetIterable iter X.env x = pure x) :
    PS X (.Assign [.Name y py] (.ListComp elt (⟨tg, iter, ifs, 0⟩ :: rest) scope pos) spos) (tAsg (tCompL wi g tt t (own.map (·.2))) (gName i)) := by
  refine ⟨fun pins s σ H D I h => ?_⟩
  rw [exec_Assign_Name_used _ _ _ _ hsw]
  refine wpAny_bind (wpAny_standAt (wpAny_bind ?_))
  show wpAny _ X.A (do let _ ← comprehension (.ListComp elt (⟨tg, iter, ifs, 0⟩ :: rest) scope pos) scope X.env (firstIterPos (⟨tg, iter, ifs, 0⟩ :: rest) pos) (newList []) false (eval iter X.env) (some (assign (.Name y py) X.env))) _ _ s
  have h : tCompL wi g tt t (own.map (·.2)) σ H (fun x H1 => gName i x σ H1 D.nx) := h
  refine wpAny_bind (thn (comp_core (Qf := fun _ s' => SP X pins D .next s') (cmpL elt _ scope pos (fun c hc => ?_)) hc hN I hi ok hg ht hr hs h fun L C s' m H' I' q hn f => ?_) fun _ s' hq => wpAny_pure (wpAny_pure hq))
  · rcases List.mem_cons.mp hc with rfl | hc
    · rfl
    · exact ha c hc
  show wpAny _ _ (assign (.Name y py) X.env (.ref L)) _ _ _
  refine wpAny_assign_Name (store_ok2 (v := V.ref L) I' hN hy (.inl hyl) rfl (fun s2 I2 ⟨a, sb, ha⟩ => ?_) (.inr hyl))
  obtain ⟨f0, f1, f2, f3, f4, f5⟩ := f
  have haC : C ≠ a := by
    rcases ha with z | z
    · rw [z]; exact f1
    · exact fun e => f4 y a z e.symm
  refine ⟨m, hn.sameBut sb haC, fun h3 sb3 => ?_⟩
  exact ⟨_, H', I2.turned (t' := s2.toks) (fun b o hb e => (sb3.2 b hb).trans e) f0 f1 f3 f4 f5, q⟩
theorem vs_setComp {i : Nat} {y : Str} {py : Pos} (hc : X.calm = true) (hN : X.N.Nodup) (ok : BlkOk X.N X.env.scope scope own) (hi : VI X tg iter fi)
    (hb : ∀ b : Blk, BlkV (blkAt X scope b) tg ifs (.ListComp elt (⟨tg, iter, ifs, 0⟩ :: rest) scope pos) (⟨tg, iter, ifs, 0⟩ :: rest) elt (own.map (·.2)) g ft inner)
    (hsw : swapsWith (.ListComp elt (⟨tg, iter, ifs, 0⟩ :: rest) scope pos) (some (.Name y py)) spos.line X.env = pure true)
    (hy : X.N[i]? = some y := by rfl) (hyl : X.env.scope.names.lookup y = some .local := by rfl) (ha : ∀ c ∈ rest, c.is_async = 0 := by decide) (hs : ∀ x, foldedSetIterable iter X.env x = pure x := by intro _; rfl) :
    VS X (.Assign [.Name y py] (.ListComp elt (⟨tg, iter, ifs, 0⟩ :: rest) scope pos) spos) (sSetF i (eComp fi g ft (own.map (·.2)) inner)) := by
  obtain ⟨wi, pi, si⟩ := hi.ex
  have a1 : ∀ b, ∃ t, VGc (blkAt X scope b) (own.map (·.2)) tg t g := fun b => (hb b).hg.ex
  have a2 : ∀ b, ∃ t, PTs (blkAt X scope b) ifs t ∧ SndT (evX X) t ft := fun b => (hb b).ht.ex
  have a3 : ∀ b, ∀ p, ∃ t, PL (blkAt X scope b) (.ListComp elt (⟨tg, iter, ifs, 0⟩ :: rest) scope pos) (⟨tg, iter, ifs, 0⟩ :: rest) (emitL elt) (.ref p) 1 t ∧ SndP (evX X) p t inner := fun b => (hb b).hr.ex
  refine ⟨_, ps_setComp hc hN hy hyl hsw ha pi ok (fun b => (a1 b).choose_spec.p) (fun b => (a2 b).choose_spec.1) (fun b p => (a3 b p).choose_spec.1) hs, ?_⟩
  exact snd_setF (snd_comp si (fun b => (a1 b).choose_spec.s) (fun b => (a2 b).choose_spec.2) (fun b p => (a3 b p).choose_spec.2))
end
end Fx
-- Fx14
namespace Fx
open PySem PySem.Spec L2
/-! ### defs -/
def st0 (n : Nat) (ds : List D) : S := ⟨ds.map .val ++ List.replicate (n - ds.length) .no, none⟩
def outV : Option (Fl × S) → Option D
  | some (.ret d, ⟨_, none⟩) => some d
  | some (.retF (.list ds), ⟨_, none⟩) => some (.list ds)
  | some (.next, ⟨_, none⟩) => some .none
  | _ => none
def outL : Option (Fl × S) → Option D
  | some (.retF d, ⟨_, none⟩) => some d
  | _ => none
def fnV (n : Nat) (F : Fs) (ds : List D) : Option D := outV (F (st0 n ds))
def fnL (n : Nat) (F : Fs) (ds : List D) : Option D := outL (F (st0 n ds))
abbrev W0 : Wt := ⟨fun _ => none, none⟩
theorem av0 {H : Hp} {O : Addr → Prop} {a : Addr} (h : Av ⟨H, O⟩ W0 a) : O a := by
  rcases h with h | ⟨i, h⟩ | ⟨t, h, _⟩
  · exact h
  · cases h
  · cases h
theorem rel0 {E : Ev} {H : Hp} {O : Addr → Prop} {vs : List V} {ds : List D} {N : List Str} (rs : Reps E O H vs ds) (fr : Fre O H) (hl : ds.length ≤ N.length) : Rel E ⟨H, O⟩ W0 H (L2.start N vs) (st0 N.length ds) := by
  have key : ∀ {j : Nat} {c : C}, (st0 N.length ds).rho[j]? = some c → (j < ds.length ∧ ∃ d, ds[j]? = some d ∧ c = .val d) ∨ (ds.length ≤ j ∧ j < N.length ∧ c = .no) := fun {j c} q => by
    unfold st0 at q
    dsimp only at q
    by_cases h : j < ds.length
    · rw [List.getElem?_append_left (by simpa using h), List.getElem?_map] at q
      simp only [Option.map_eq_some_iff] at q
      obtain ⟨d, h1, h2⟩ := q
      exact .inl ⟨h, d, h1, h2.symm⟩
    · rw [List.getElem?_append_right (by simpa using Nat.le_of_not_lt h), List.getElem?_replicate] at q
      simp only [List.length_map] at q
      split at q
      · cases q
        exact .inr ⟨Nat.le_of_not_lt h, by omega, rfl⟩
      · cases q
  have sl : ∀ {j : Nat} {v : V}, vs[j]? = some v → (L2.start N vs)[j]? = some (some v) := fun {j v} q => by
    unfold L2.start
    have hj : j < vs.length := (List.getElem?_eq_some_iff.mp q).1
    rw [List.getElem?_append_left (by simpa using hj), List.getElem?_map, q]
    rfl
  have el : vs.length = ds.length := rs.length
  exact {
    len := by unfold st0 L2.start; simp [el]
    fr := fun a o e _ => e
    val := fun j d q => by
      rcases key q with ⟨hj, d', h1, h2⟩ | ⟨_, _, z⟩
      · cases h2
        obtain ⟨v, e1, e2⟩ := rs.get h1
        exact ⟨v, sl e1, e2.weak fun a z => av0 z⟩
      · cases z
    own := fun j d q => by
      rcases key q with ⟨hj, d', h1, h2⟩ | ⟨_, _, z⟩
      · cases h2
      · cases z
    dom := fun j a q => by cases q
    inj := fun j k a q => by cases q
    obj := fun a h => fr a h
    tow := trivial
    tnc := fun j q => by
      rcases key q with ⟨hj, d', h1, h2⟩ | ⟨_, _, z⟩
      · cases h2
      · cases z
    rwc := fun j q => by
      rcases key q with ⟨hj, d', h1, h2⟩ | ⟨_, _, z⟩
      · cases h2
      · cases z
    noc := fun j q => by
      rcases key q with ⟨hj, d', h1, h2⟩ | ⟨h1, h2, z⟩
      · cases h2
      · unfold L2.start
        rw [List.getElem?_append_right (by simp [el]; omega), List.getElem?_replicate, if_pos (by simp; omega)] }
theorem left_none {E : Ev} {G : Cfg} {W : Wt} {H : Hp} (l : Left E G W H none) : W.tn = none := by
  have t := l.tow
  unfold TownOk at t
  split at t
  · assumption
  · rename_i e2; cases e2
  · exact t.elim
theorem post0V {E : Ev} {H : Hp} {O : Addr → Prop} {d : D} {Q : VK} {r : Option (Fl × S)} (h : outV r = some d) (q : ∀ v H', Same H H' → Rep E O H' v d → Q v H') : Post E ⟨H, O⟩ W0 H { nx := fun _ H' => Q .non H', rt := Q } r := by
  have sm : ∀ {W' : Wt} {H' : Hp}, Left E ⟨H, O⟩ W' H' none → Same H H' := fun {W' H'} l a o e => l.fr a o e fun ⟨t, z, _⟩ => by rw [left_none l] at z; cases z
  have av : ∀ {W' : Wt} {H' : Hp} {a : Addr}, Left E ⟨H, O⟩ W' H' none → (AvR ⟨H, O⟩ W' a ↔ O a) := fun {W' H' a} l => by
    refine ⟨fun z => ?_, .inl⟩
    rcases z with z | ⟨t, z, _⟩
    · exact z
    · rw [left_none l] at z; cases z
  unfold outV at h
  split at h
  · cases h
    exact fun W' v H' l _ rp => q v H' (sm l) (rp.weak fun a z => (av l).mpr z)
  · cases h
    exact fun W' p H' l _ h0 hn tp => q _ H' (sm l) (tp.rep (fun z => hn ((av l).mpr z)) fun x z => .inl ((av l).mpr z))
  · cases h
    exact fun W' σ' H' R _ _ => q _ H' (sm R.left) .non
  · cases h
theorem post0L {E : Ev} {H : Hp} {O : Addr → Prop} {d : D} {Q : VK} {r : Option (Fl × S)} (h : outL r = some d) (q : ∀ p H', Same H H' → H p = none → Top E (fun a => O a ∨ a = p) H' p d → Q (.ref p) H') : Post E ⟨H, O⟩ W0 H { nx := fun _ H' => Q .non H', rt := Q } r := by
  unfold outL at h
  split at h
  · cases h
    refine fun W' p H' l _ h0 hn tp => q p H' (fun a o e => l.fr a o e fun ⟨t, z, _⟩ => by rw [left_none l] at z; cases z) h0 (tp.fz (Fz.weak fun a z => ?_) fun _ e => e)
    rcases z with z | z
    · exact .inl (.inl z)
    · exact .inr z
  · cases h
theorem ps_le {N ps : List Str} {sc : Scope} (S : FnScope N ps sc) : ps.length ≤ N.length := by
  have := congrArg List.length S.pre
  rw [List.length_take] at this
  omega
section
variable {P : Program} {w : World} {K : PySem.W.Frag} {mg : Str → Option Value} {base : Heap} {x qual : Str} {st : Stmt} {f : Addr} {fd : FuncData} {N ps : List Str} {k : Nat} {Fb : Fs}
/-- the context of a def's body -/
abbrev cxB (P : Program) (w : World) (K : PySem.W.Frag) (mg : Str → Option Value) (base : Heap) (N : List Str) (qual : Str) (st : Stmt) (f : Addr) (cdv : Value) (A : Around) (outer : List Env) (s : Shared) (H : Hp) (E : XK) : Cx := (cxOf CX0 P w K mg base N qual (defScope st) f cdv A outer s H E).nox
def BodyV (P : Program) (w : World) (K : PySem.W.Frag) (mg : Str → Option Value) (base : Heap) (N : List Str) (qual : Str) (st : Stmt) (f : Addr) (k : Nat) (Fb : Fs) : Prop := ∀ (cdv : Value) (A : Around) (outer : List Env) (s : Shared) (H : Hp) (E : XK), Room k (A.deeper (PyProof.Rows.envOfC qual (defScope st) s.heap.objs.size f cdv)) → VB (cxB P w K mg base N qual st f cdv A outer s H E) (defBody st) Fb
theorem fn_V (F : Fun K x qual st f fd) (S : FnScope N ps (defScope st)) (hb : BodyV P w K mg base N qual st f k Fb) : FnOk P w K mg base CX0 (k + 1) f fd ps (spV ⟨P, w, K⟩ ps.length (fnV N.length Fb)) := by
  refine F.ok S (fun vs H Q E h => spV_len vs H Q E h) fun cdv A outer s H vs Q E hr h => ?_
  obtain ⟨O, ds, d, hl, rs, fr, hg, hq⟩ := h
  obtain ⟨t, p, sn⟩ := (hb cdv A outer s H E hr).ex
  exact ⟨t, p, sn ⟨H, O⟩ W0 _ H _ _ (rel0 rs fr (by rw [hl]; exact ps_le S)) (post0V hg hq)⟩
theorem fn_L (F : Fun K x qual st f fd) (S : FnScope N ps (defScope st)) (hb : BodyV P w K mg base N qual st f k Fb) : FnOk P w K mg base CX0 (k + 1) f fd ps (spL ⟨P, w, K⟩ ps.length (fnL N.length Fb)) := by
  refine F.ok S (fun vs H Q E h => spL_len vs H Q E h) fun cdv A outer s H vs Q E hr h => ?_
  obtain ⟨O, ds, d, hl, rs, fr, hg, hq⟩ := h
  obtain ⟨t, p, sn⟩ := (hb cdv A outer s H E hr).ex
  exact ⟨t, p, sn ⟨H, O⟩ W0 _ H _ _ (rel0 rs fr (by rw [hl]; exact ps_le S)) (post0L hg hq)⟩
end
/-- a statement that is not reached -/
def sNo : Fs := fun _ => none
theorem vs_no {X : Cx} {st : Stmt} : VS X st sNo := ⟨fun _ _ _ => False, ⟨fun _ _ _ _ _ _ h => h.elim⟩, fun _ _ _ _ _ _ _ po => po.elim⟩
end Fx
-- Fx15
namespace Fx
open PySem PySem.Spec L2
/-! ### defs whose first argument is the town -/
abbrev Tw := List Int × Int
def spT (E : Ev) (n : Nat) (g : Tw → List D → Option (D × Tw)) : Sp := fun vs H Q _ => ∃ (O : Addr → Prop) (tl rl : Addr) (us : List V) (ds : List D) (tw tw' : Tw) (d : D), vs = .ref tl :: us ∧ ds.length = n ∧ O tl ∧ O rl ∧ TownOk (some (tl, rl)) H (some tw) ∧ Reps E O H us ds ∧ Fre O H ∧ g tw ds = some (d, tw') ∧
  ∀ v H', (∀ a o, H a = some o → a ≠ tl → a ≠ rl → H' a = some o) → TownOk (some (tl, rl)) H' (some tw') → Rep E O H' v d → Q v H'
theorem spT_len {E : Ev} {n : Nat} {g : Tw → List D → Option (D × Tw)} : ∀ vs H Q X, spT E n g vs H Q X → vs.length = n + 1 := fun vs H Q X ⟨_, _, _, us, ds, _, _, _, h0, h1, _, _, _, h2, _⟩ => by rw [h0, List.length_cons, h2.length, h1]
theorem Rel.town {E : Ev} {G : Cfg} {W : Wt} {H H' : Hp} {σ : L2.St} {s : S} {t : Addr × Addr} {tw' : Option Tw} (R : Rel E G W H σ s) (hw : W.tn = some t) (k : ∀ a o, H a = some o → a ≠ t.1 → a ≠ t.2 → H' a = some o) (ok : TownOk W.tn H' tw') : Rel E G W H' σ { s with tw := tw' } ∧ Fz (Av G W) (Av G W) H H' := by
  have nt : ∀ {a : Addr}, ¬ TownA W.tn a → a ≠ t.1 ∧ a ≠ t.2 := fun {a} h => ⟨fun z => h ⟨t, hw, .inl z⟩, fun z => h ⟨t, hw, .inr z⟩⟩
  have f : Fz (Av G W) (Av G W) H H' := fun a o n e => ⟨n, k a o e (nt fun z => n (.inr (.inr z))).1 (nt fun z => n (.inr (.inr z))).2⟩
  refine ⟨{
    len := R.len
    fr := fun a o e h => k a o (R.fr a o e h) (nt h).1 (nt h).2
    val := fun i d h => let ⟨v, e, q⟩ := R.val i d h; ⟨v, e, q.fz f⟩
    own := fun i d h => by
      obtain ⟨a, e1, e2, q⟩ := R.own i d h
      obtain ⟨_, d1, _, _⟩ := R.dom i a e1
      exact ⟨a, e1, e2, q.fz f fun o e => k a o e (nt d1).1 (nt d1).2⟩
    dom := R.dom
    inj := R.inj
    obj := fun a h => by
      obtain ⟨o, e, n⟩ := R.obj a h
      by_cases z : TownA W.tn a
      · rw [hw] at ok
        have ⟨row, m, _, _, h2, h3⟩ := TownOk.get (tl := t.1) (rl := t.2) ok
        obtain ⟨t', e', z⟩ := z
        rw [hw] at e'; cases e'
        rcases z with z | z
        · rw [z]; exact ⟨_, h2, fun _ z => nomatch z⟩
        · rw [z]; exact ⟨_, h3, fun _ z => nomatch z⟩
      · exact ⟨o, k a o e (nt z).1 (nt z).2, n⟩
    tow := ok
    tnc := R.tnc
    rwc := R.rwc
    noc := R.noc }, f⟩
def eFnT (i : Nat) (n : Nat) (g : Tw → List D → Option (D × Tw)) (fa : Fa) : Fe := fun s => match s.rho[i]? with
  | some .tn => (fa s).bind fun (xs, s1) => s1.tw.bind fun tw => if xs.length = n then (g tw xs).map fun (z, tw') => (z, { s1 with tw := some tw' }) else none
  | _ => none
section
variable {X : Cx} {k n i : Nat} {f : Addr} {fd : FuncData} {ps : List Str} {g : Tw → List D → Option (D × Tw)} {x y : Str} {p p2 pos : Pos} {es : List Expr} {fa : Fa}
theorem ve_fnT (i : Nat) (F : FnOk X.prog X.w X.K X.mg X.base CX0 k f fd ps (spT (evX X) n g)) (hr : Room k X.A) (hg : Gl X x) (hm : X.mg x = some (.ref f)) (hk : PySem.W.keepIn X.K (.ref f) = true) (hb : Binds X.K fd ps []) (nv : NV X i y) (ha : VA X es fa) (hdb : (x == ("__debug__" : Str)) = false := by decide +kernel) (ns : NS X (.Name y p2) es pos := by exact ⟨rfl, rfl⟩) :
    VE X (.Call (.Name x p) (.Name y p2 :: es) [] pos) (eFnT i n g fa) := by
  obtain ⟨t, pa, sa⟩ := ha.ex
  refine ⟨_, pe_call F hr hg hm hk hb .nil pass0 (pa_cons (pe_var nv.hN nv.hv nv.hd nv.hcd) pa ns.he) hdb ns.he ns.hpl, ?_⟩
  intro G W σ H s d s' R hf Q hq
  unfold eFnT at hf
  split at hf
  · rename_i e0
    simp only [Option.bind_eq_some_iff] at hf
    obtain ⟨⟨xs, s1⟩, h1, tw, h2, h3⟩ := hf
    dsimp only at h2 h3
    split at h3
    · rename_i hl
      simp only [Option.map_eq_some_iff] at h3
      obtain ⟨⟨z, tw'⟩, h4, h5⟩ := h3
      cases h5
      obtain ⟨tl, rl, e1, e2⟩ := R.tnc i e0
      refine ⟨_, e2, sa G W σ H s xs s1 R h1 _ fun vs H1 R1 z1 p1 => ?_⟩
      have ok := R1.tow
      rw [e1, h2] at ok
      refine ⟨Av G W, tl, rl, vs, xs, tw, tw', _, by rw [List.append_nil], hl, .inr (.inr ⟨_, e1, .inl rfl⟩), .inr (.inr ⟨_, e1, .inr rfl⟩), ok, p1, R1.fre, h4, fun v H2 k ok2 p2 => ?_⟩
      obtain ⟨R2, z2⟩ := R1.town e1 (fun a o e n1 n2 => k a o e n1 n2) (tw' := some tw') (by rw [e1]; exact ok2)
      exact hq v H2 R2 (z1.trans z2) p2
    · cases h3
  · cases hf
end
/-- the state at the entry of such a def -/
def st0T (n : Nat) (tw : Tw) (ds : List D) : S := ⟨.tn :: (ds.map .val ++ List.replicate (n - (ds.length + 1)) .no), some tw⟩
def outT : Option (Fl × S) → Option (D × Tw)
  | some (.ret d, ⟨_, some tw⟩) => some (d, tw)
  | some (.retF (.list ds), ⟨_, some tw⟩) => some (.list ds, tw)
  | some (.next, ⟨_, some tw⟩) => some (.none, tw)
  | _ => none
def fnT (n : Nat) (F : Fs) (tw : Tw) (ds : List D) : Option (D × Tw) := outT (F (st0T n tw ds))
abbrev WT (t : Addr × Addr) : Wt := ⟨fun _ => none, some t⟩
theorem rel0T {E : Ev} {H : Hp} {O : Addr → Prop} {tl rl : Addr} {us : List V} {ds : List D} {tw : Tw} {N : List Str} (rs : Reps E O H us ds) (fr : Fre O H) (ot : O tl) (or' : O rl) (ok : TownOk (some (tl, rl)) H (some tw)) (hl : ds.length + 1 ≤ N.length) : Rel E ⟨H, O⟩ (WT (tl, rl)) H (L2.start N (.ref tl :: us)) (st0T N.length tw ds) := by
  have avT : ∀ a, Av ⟨H, O⟩ (WT (tl, rl)) a → O a := fun a h => by
    rcases h with h | ⟨i, h⟩ | ⟨t, h, z⟩
    · exact h
    · cases h
    · cases h
      rcases z with z | z
      · rw [z]; exact ot
      · rw [z]; exact or'
  have el : us.length = ds.length := rs.length
  have key : ∀ {j : Nat} {c : C}, (st0T N.length tw ds).rho[j]? = some c → (j = 0 ∧ c = .tn) ∨ (∃ i d, j = i + 1 ∧ ds[i]? = some d ∧ c = .val d) ∨ (ds.length + 1 ≤ j ∧ j < N.length ∧ c = .no) := fun {j c} q => by
    unfold st0T at q
    dsimp only at q
    cases j with
    | zero => simp only [List.getElem?_cons_zero, Option.some.injEq] at q; exact .inl ⟨rfl, q.symm⟩
    | succ j =>
      simp only [List.getElem?_cons_succ] at q
      by_cases h : j < ds.length
      · rw [List.getElem?_append_left (by simpa using h), List.getElem?_map] at q
        simp only [Option.map_eq_some_iff] at q
        obtain ⟨d, h1, h2⟩ := q
        exact .inr (.inl ⟨j, d, rfl, h1, h2.symm⟩)
      · rw [List.getElem?_append_right (by simpa using Nat.le_of_not_lt h), List.getElem?_replicate] at q
        simp only [List.length_map] at q
        split at q
        · cases q
          exact .inr (.inr ⟨by omega, by omega, rfl⟩)
        · cases q
  exact {
    len := by unfold st0T L2.start; simp [el]
    fr := fun a o e _ => e
    val := fun j d q => by
      rcases key q with ⟨_, z⟩ | ⟨i, d', rfl, h1, h2⟩ | ⟨_, _, z⟩
      · cases z
      · cases h2
        obtain ⟨v, e1, e2⟩ := rs.get h1
        refine ⟨v, ?_, e2.weak avT⟩
        unfold L2.start
        have hj : i < us.length := (List.getElem?_eq_some_iff.mp e1).1
        rw [List.map_cons, List.cons_append, List.getElem?_cons_succ, List.getElem?_append_left (by simpa using hj), List.getElem?_map, e1]
        rfl
      · cases z
    own := fun j d q => by
      rcases key q with ⟨_, z⟩ | ⟨i, d', _, _, z⟩ | ⟨_, _, z⟩ <;> cases z
    dom := fun j a q => by cases q
    inj := fun j k a q => by cases q
    obj := fun a h => fr a h
    tow := ok
    tnc := fun j q => by
      rcases key q with ⟨rfl, z⟩ | ⟨i, d', _, _, z⟩ | ⟨_, _, z⟩
      · exact ⟨tl, rl, rfl, rfl⟩
      · cases z
      · cases z
    rwc := fun j q => by
      rcases key q with ⟨_, z⟩ | ⟨i, d', _, _, z⟩ | ⟨_, _, z⟩ <;> cases z
    noc := fun j q => by
      rcases key q with ⟨_, z⟩ | ⟨i, d', _, _, z⟩ | ⟨h1, h2, z⟩
      · cases z
      · cases z
      · unfold L2.start
        rw [List.getElem?_append_right (by simp [el]; omega), List.getElem?_replicate, if_pos (by simp; omega)] }
theorem post0T {E : Ev} {H : Hp} {O : Addr → Prop} {tl rl : Addr} {d : D} {tw' : Tw} {Q : VK} {r : Option (Fl × S)} (ot : O tl) (or' : O rl) (h : outT r = some (d, tw')) (q : ∀ v H', (∀ a o, H a = some o → a ≠ tl → a ≠ rl → H' a = some o) → TownOk (some (tl, rl)) H' (some tw') → Rep E O H' v d → Q v H') : Post E ⟨H, O⟩ (WT (tl, rl)) H { nx := fun _ H' => Q .non H', rt := Q } r := by
  have sm : ∀ {W' : Wt} {H' : Hp} {tw : Option Tw}, Left E ⟨H, O⟩ W' H' tw → Wk (WT (tl, rl)) W' → (∀ a o, H a = some o → a ≠ tl → a ≠ rl → H' a = some o) ∧ TownOk (some (tl, rl)) H' tw := fun {W' H' tw} l wk => by
    have e := wk _ rfl
    refine ⟨fun a o e1 n1 n2 => l.fr a o e1 fun ⟨t, z, y⟩ => ?_, by have := l.tow; rw [e] at this; exact this⟩
    rw [e] at z; cases z
    rcases y with y | y
    · exact n1 y
    · exact n2 y
  have av : ∀ {W' : Wt} {a : Addr}, Wk (WT (tl, rl)) W' → O a → AvR ⟨H, O⟩ W' a := fun {W' a} wk z => .inl z
  unfold outT at h
  split at h
  · cases h
    exact fun W' v H' l wk rp => q v H' (sm l wk).1 (sm l wk).2 (rp.weak fun a z => .inl z)
  · cases h
    exact fun W' p H' l wk h0 hn tp => q _ H' (sm l wk).1 (sm l wk).2 (tp.rep (fun z => hn (.inl z)) fun x z => .inl (.inl z))
  · cases h
    exact fun W' σ' H' R _ wk => q _ H' (sm R.left wk).1 (sm R.left wk).2 .non
  · cases h
section
variable {P : Program} {w : World} {K : PySem.W.Frag} {mg : Str → Option Value} {base : Heap} {x qual : Str} {st : Stmt} {f : Addr} {fd : FuncData} {N ps : List Str} {k n : Nat} {Fb : Fs}
theorem fn_T (F : Fun K x qual st f fd) (S : FnScope N ps (defScope st)) (hn : ps.length = n + 1) (hb : BodyV P w K mg base N qual st f k Fb) : FnOk P w K mg base CX0 (k + 1) f fd ps (spT ⟨P, w, K⟩ n (fnT N.length Fb)) := by
  refine F.ok S (fun vs H Q E h => by rw [hn]; exact spT_len vs H Q E h) fun cdv A outer s H vs Q E hr h => ?_
  obtain ⟨O, tl, rl, us, ds, tw, tw', d, rfl, hl, ot, or', ok, rs, fr, hg, hq⟩ := h
  obtain ⟨t, p, sn⟩ := (hb cdv A outer s H E hr).ex
  have := ps_le S
  exact ⟨t, p, sn ⟨H, O⟩ (WT (tl, rl)) _ H _ _ (rel0T rs fr ot or' ok (by omega)) (post0T ot or' hg hq)⟩
end
end Fx
-- Fx16
namespace Fx
open PySem PySem.Spec L2
/-! ### the town's own lines -/
def eTw1 (i : Nat) : Fe := fun s => match s.rho[i]?, s.tw with
  | some .tn, some (_, n) => some (.int n, s)
  | _, _ => none
def eRowLen (j : Nat) : Fe := fun s => match s.rho[j]?, s.tw with
  | some .rw, some (row, _) => some (.int (row.length : Nat), s)
  | _, _ => none
def eRowAt (j : Nat) (f : Fe) : Fe := fun s => match s.rho[j]? with
  | some .rw => (f s).bind fun (y, s1) => match y, s1.tw with
    | .int k, some (row, _) => (atI row k).map fun z => (.int z, s1)
    | _, _ => none
  | _ => none
def sRow (i j : Nat) : Fs := fun s => match s.rho[i]?, s.rho[j]? with
  | some .tn, some (.own _) => none
  | some .tn, _ => some (.next, s.put j .rw)
  | _, _ => none
def sTw1 (i : Nat) (f : Fe) : Fs := fun s => (f s).bind fun (y, s1) => match s1.rho[i]?, y, s1.tw with
  | some .tn, .int n, some (row, _) => some (.next, { s1 with tw := some (row, n) })
  | _, _, _ => none
def sRowSet (j : Nat) (f g : Fe) : Fs := fun s => (g s).bind fun (z, s1) => match s1.rho[j]? with
  | some .rw => (f s1).bind fun (y, s2) => match z, y, s2.tw with
    | .int v, .int k, some (row, n) => (ixN row.length k).map fun m => (.next, { s2 with tw := some (row.set m v, n) })
    | _, _, _ => none
  | _ => none
theorem Rel.putRw {E : Ev} {G : Cfg} {W : Wt} {H : Hp} {σ : L2.St} {s : S} {j : Nat} {tl rl : Addr} (R : Rel E G W H σ s) (hw : W.tn = some (tl, rl)) (hj : W.ow j = none) : Rel E G W H (σ.set j (some (.ref rl))) (s.put j .rw) where
  len := by simp [S.put, R.len]
  fr := R.fr
  val := fun i d h => by
    rcases put_get h with ⟨rfl, e, hl⟩ | ⟨hi, h⟩
    · cases e
    · rw [set_ne hi]; exact R.val i d h
  own := fun i d h => by
    rcases put_get h with ⟨rfl, e, hl⟩ | ⟨hi, h⟩
    · cases e
    · rw [set_ne hi]; exact R.own i d h
  dom := fun i a h => by
    obtain ⟨h1, h2, h3, d, h4⟩ := R.dom i a h
    have hi : i ≠ j := fun z => by rw [z, hj] at h; cases h
    exact ⟨h1, h2, h3, d, by simp [S.put, List.getElem?_set_ne (Ne.symm hi), h4]⟩
  inj := R.inj
  obj := R.obj
  tow := R.tow
  tnc := fun i h => by
    rcases put_get h with ⟨rfl, e, hl⟩ | ⟨hi, h⟩
    · cases e
    · rw [set_ne hi]; exact R.tnc i h
  rwc := fun i h => by
    rcases put_get h with ⟨rfl, e, hl⟩ | ⟨hi, h⟩
    · exact ⟨tl, rl, hw, by rw [R.len] at hl; simp [hl]⟩
    · rw [set_ne hi]; exact R.rwc i h
  noc := fun i h => by
    rcases put_get h with ⟨rfl, e, hl⟩ | ⟨hi, h⟩
    · cases e
    · rw [set_ne hi]; exact R.noc i h
section
variable {X : Cx} {i j : Nat} {x y : Str} {p p1 p2 p3 pos : Pos} {e b : Expr} {f g : Fe} {k0 : Nat}
theorem ve_tw1 (i : Nat) (nv : NV X i x) (hs : PlainIx (.Constant (.int 1) k0 p2) := by exact fun _ _ => rfl) : VE X (.Subscript (.Name x p) (.Constant (.int 1) k0 p2) pos) (eTw1 i) := by
  refine ⟨_, pe_ix ix_list (pe_var nv.hN nv.hv nv.hd nv.hcd) pe_int hs, ?_⟩
  intro G W σ H s d s' R hf Q hq
  unfold eTw1 at hf
  split at hf
  · rename_i row n e1 e2
    cases hf
    obtain ⟨tl, rl, h1, h2⟩ := R.tnc i e1
    have ok := R.tow
    rw [h1, e2] at ok
    exact ⟨_, h2, tl, [.ref rl, .int n], 1, .int n, rfl, rfl, SqL.of ok.2.1, rfl, hq _ H R Fz.refl (.int n)⟩
  · cases hf
theorem ve_rowLen (j : Nat) (nv : NV X j x) (hg : Gl X "len") (hm : X.mg "len" = none) (ns : NS X (.Name x p) [] pos) : VE X (.Call (.Name "len" p2) [.Name x p] [] pos) (eRowLen j) := by
  refine ⟨_, pe_callB call_len_seq hg hm PySem.boot_len (pa_cons (pe_var nv.hN nv.hv nv.hd nv.hcd) pa_nil ns.he) (by decide) (by decide) ns.he ns.hpl, ?_⟩
  intro G W σ H s d s' R hf Q hq
  unfold eRowLen at hf
  split at hf
  · rename_i row n e1 e2
    cases hf
    obtain ⟨tl, rl, h1, h2⟩ := R.rwc j e1
    have ok := R.tow
    rw [h1, e2] at ok
    refine ⟨_, h2, rl, row.map .int, rfl, .inl (SqL.of ok.2.2), ?_⟩
    rw [List.length_map]
    exact hq _ H R Fz.refl (.int _)
  · cases hf
theorem atI_map {α β : Type} (h : α → β) (xs : List α) (k : Int) : atI (xs.map h) k = (atI xs k).map h := by
  unfold atI
  rw [List.length_map]
  cases ixN xs.length k with
  | none => rfl
  | some m => simp
theorem ve_rowAt (j : Nat) (nv : NV X j x) (hb : VE X b f) (hs : PlainIx b := by exact fun _ _ => rfl) : VE X (.Subscript (.Name x p) b pos) (eRowAt j f) := by
  obtain ⟨t, pt, sn⟩ := hb.ex
  refine ⟨_, pe_ix ix_list (pe_var nv.hN nv.hv nv.hd nv.hcd) pt hs, ?_⟩
  intro G W σ H s d s' R hf Q hq
  unfold eRowAt at hf
  split at hf
  · rename_i e1
    simp only [Option.bind_eq_some_iff] at hf
    obtain ⟨⟨y, s1⟩, e2, e3⟩ := hf
    dsimp only at e3
    split at e3
    · rename_i k row n e4
      simp only [Option.map_eq_some_iff] at e3
      obtain ⟨z, e5, e6⟩ := e3
      cases e6
      obtain ⟨tl, rl, h1, h2⟩ := R.rwc j e1
      refine ⟨_, h2, sn G W σ H s _ _ R e2 _ fun v H1 R1 z1 p1 => ?_⟩
      have ok := R1.tow
      rw [h1, e4] at ok
      cases p1
      exact ⟨rl, row.map .int, k, .int z, rfl, rfl, SqL.of ok.2.2, by rw [atI_map, e5]; rfl, hq _ H1 R1 z1 (.int z)⟩
    · cases e3
  · cases hf
theorem vs_row (i j : Nat) (nv : NV X i x) (hN : X.N.Nodup) (hi : X.N[j]? = some y := by rfl) (hx : Loc X.env.scope y := by first | exact Or.inl rfl | exact Or.inr rfl) (hs0 : PlainIx (.Constant (.int 0) k0 p2) := by exact fun _ _ => rfl)
    (hs : swapsWith (.Subscript (.Name x p) (.Constant (.int 0) k0 p2) p3) (some (.Name y p1)) pos.line X.env = pure false := by rfl) (hf : X.fn y = true ∨ X.env.scope.names.lookup y = some .local := by first | exact .inl rfl | exact .inr rfl) :
    VS X (.Assign [.Name y p1] (.Subscript (.Name x p) (.Constant (.int 0) k0 p2) p3) pos) (sRow i j) := by
  refine ⟨_, ps_set hN hi hx (pe_ix ix_list (pe_var nv.hN nv.hv nv.hd nv.hcd) pe_int hs0) hs hf, fun G W σ H s Dn R po => ?_⟩
  unfold sRow at po
  have fin : s.rho[i]? = some .tn → W.ow j = none → Post (evX X) G W H Dn (some (.next, s.put j .rw)) → tAsg (tOp (rIxL X.K) (tVar i) (tC (.int 0))) (gName j) Dn σ H := fun e1 e2 po => by
    obtain ⟨tl, rl, h1, h2⟩ := R.tnc i e1
    have ok := R.tow
    rw [h1] at ok
    obtain ⟨row, n, _, _, h3, h4⟩ := ok.get
    exact ⟨_, h2, tl, [.ref rl, .int n], 0, .ref rl, rfl, rfl, SqL.of h3, rfl, po W _ H (R.putRw h1 e2) Fz.refl Wk.refl⟩
  split at po
  · exact po.elim
  · rename_i e1 nx
    refine fin e1 ?_ po
    cases q : W.ow j with
    | none => rfl
    | some a =>
      obtain ⟨_, _, _, d, hd⟩ := R.dom j a q
      exact absurd hd (nx d)
  · exact po.elim
theorem upd_map_set (row : List Int) (m : Nat) (v : Int) : (row.map V.int).set m (.int v) = (row.set m v).map V.int := by
  rw [List.map_set]
theorem vs_tw1 (i : Nat) (nv : NV X i x) (he : VE X e f)
    (hs : swapsWithSole [.Subscript (.Name x p) (.Constant (.int 1) k0 p2) p3] e pos.line X.env = pure false := by rfl) (hw : swappedStores [.Subscript (.Name x p) (.Constant (.int 1) k0 p2) p3] e X.env = pure none := by rfl) (h1 : (assignEach [.Subscript (.Name x p) (.Constant (.int 1) k0 p2) p3] X.env).map (·.2) = [assign (.Subscript (.Name x p) (.Constant (.int 1) k0 p2) p3) X.env] := by rfl)
    (ha : ∀ v, assign (.Subscript (.Name x p) (.Constant (.int 1) k0 p2) p3) X.env v = (do
      let ov ← holding [v] (eval (.Name x p) X.env)
      let iv ← holding [v, ov] (eval (.Constant (.int 1) k0 p2) X.env)
      standAt p3
      holding [v, ov, iv] (setItem ov iv v)
      release [v, ov, iv] []) := by intro _; rfl) : VS X (.Assign [.Subscript (.Name x p) (.Constant (.int 1) k0 p2) p3] e pos) (sTw1 i f) := by
  obtain ⟨t, pt, sn⟩ := he.ex
  refine ⟨_, ps_asg pt (pg_sub (pe_var nv.hN nv.hv nv.hd nv.hcd) pe_int set_list ha) hs hw h1, fun G W σ H s Dn R po => ?_⟩
  unfold sTw1 at po
  match e0 : f s, po with
  | none, po => exact po.elim
  | some (d, s1), po =>
    dsimp only [Option.bind] at po
    split at po
    · rename_i n row m e1 e2
      refine sn G W σ H s _ s1 R e0 _ fun v H1 R1 z1 p1 => ?_
      obtain ⟨tl, rl, h1, h2⟩ := R1.tnc i e1
      have ok := R1.tow
      rw [h1, e2] at ok
      obtain ⟨o1, o2, o3⟩ := ok
      cases p1
      refine ⟨_, h2, tl, _, 1, 1, rfl, rfl, o2, rfl, ?_⟩
      obtain ⟨R2, z2⟩ := R1.town h1 (H' := upd H1 tl (.lst [.ref rl, .int n])) (tw' := some (row, n)) (fun a o e n1 n2 => by rw [upd_ne n1]; exact e) (by rw [h1]; exact ⟨o1, upd_same, by rw [upd_ne o1.symm]; exact o3⟩)
      exact po W σ _ R2 (z1.trans z2) Wk.refl
    · exact po.elim
theorem vs_rowSet (j : Nat) (nv : NV X j x) (hb : VE X b f) (he : VE X e g)
    (hs : swapsWithSole [.Subscript (.Name x p) b p3] e pos.line X.env = pure false := by rfl) (hw : swappedStores [.Subscript (.Name x p) b p3] e X.env = pure none := by rfl) (h1 : (assignEach [.Subscript (.Name x p) b p3] X.env).map (·.2) = [assign (.Subscript (.Name x p) b p3) X.env] := by rfl)
    (ha : ∀ v, assign (.Subscript (.Name x p) b p3) X.env v = (do
      let ov ← holding [v] (eval (.Name x p) X.env)
      let iv ← holding [v, ov] (eval b X.env)
      standAt p3
      holding [v, ov, iv] (setItem ov iv v)
      release [v, ov, iv] []) := by intro _; rfl) : VS X (.Assign [.Subscript (.Name x p) b p3] e pos) (sRowSet j f g) := by
  obtain ⟨t, pt, sn⟩ := he.ex
  obtain ⟨u, pu, su⟩ := hb.ex
  refine ⟨_, ps_asg pt (pg_sub (pe_var nv.hN nv.hv nv.hd nv.hcd) pu set_list ha) hs hw h1, fun G W σ H s Dn R po => ?_⟩
  unfold sRowSet at po
  match e0 : g s, po with
  | none, po => exact po.elim
  | some (z, s1), po =>
    dsimp only [Option.bind] at po
    split at po
    · rename_i e1
      match e2 : f s1, po with
      | none, po => exact po.elim
      | some (y, s2), po =>
        dsimp only at po
        split at po
        · rename_i v k row n e3 _
          cases e4 : ixN row.length k with
          | none => rw [e4] at po; exact po.elim
          | some m =>
            rw [e4] at po
            refine sn G W σ H s _ s1 R e0 _ fun v1 H1 R1 z1 p1 => ?_
            obtain ⟨tl, rl, h1, h2⟩ := R1.rwc j e1
            refine ⟨_, h2, su G W σ H1 s1 _ s2 R1 e2 _ fun v2 H2 R2 z2 p2 => ?_⟩
            have ok := R2.tow
            rw [h1, e3] at ok
            obtain ⟨o1, o2, o3⟩ := ok
            cases p1
            cases p2
            refine ⟨rl, _, k, m, rfl, rfl, o3, by rw [List.length_map]; exact e4, ?_⟩
            rw [upd_map_set]
            obtain ⟨R3, z3⟩ := R2.town h1 (H' := upd H2 rl (.lst ((row.set m v).map .int))) (tw' := some (row.set m v, n)) (fun a o e n1 n2 => by rw [upd_ne n2]; exact e) (by rw [h1]; exact ⟨o1, by rw [upd_ne o1]; exact o2, upd_same⟩)
            exact po W σ _ R3 ((z1.trans z2).trans z3) Wk.refl
        · exact po.elim
    · exact po.elim
end
end Fx
-- Fx17
namespace Fx
open PySem PySem.Spec L2
/-! ### dicts whose keys are tuples of ints and texts; ints and texts -/
def keyA : D → Option Key
  | .int i => some (.inl i)
  | .str x => some (.inr x)
  | _ => none
def keysA : List D → Option (List Key)
  | [] => some []
  | d :: r => (keyA d).bind fun k => (keysA r).map fun ks => k :: ks
/-- a key -/
inductive KY where
  | t (ks : List Key)
  | k (q : Key)
deriving DecidableEq
def keyY : D → Option KY
  | .tuple [] => none
  | .tuple (d :: ds) => (keysA (d :: ds)).map .t
  | .int i => some (.k (.inl i))
  | .str x => some (.k (.inr x))
  | _ => none
def KY.d : KY → D
  | .t ks => .tuple (ks.map keyD)
  | .k q => keyD q
def isT : D → Bool
  | .tuple _ => true
  | _ => false
/-- the key is of the dict's kind -/
def okY : List (D × D) → KY → Bool
  | [], .t _ => true
  | [], .k _ => false
  | kv :: _, .t _ => isT kv.1
  | kv :: _, .k _ => !isT kv.1
theorem isT_k (k : Key) : isT (keyD k) = false := by cases k <;> rfl
theorem keyA_D (k : Key) : keyA (keyD k) = some k := by cases k <;> rfl
theorem keysA_D : ∀ ks : List Key, keysA (ks.map keyD) = some ks
  | [] => rfl
  | k :: ks => by show ((keyA (keyD k)).bind fun k => (keysA (ks.map keyD)).map fun ks => k :: ks) = _; rw [keyA_D, keysA_D ks]; rfl
theorem keyY_t {ks : List Key} (h : ks ≠ []) : keyY (.tuple (ks.map keyD)) = some (.t ks) := by
  cases ks with
  | nil => exact absurd rfl h
  | cons k r => show ((keysA ((k :: r).map keyD)).map KY.t) = _; rw [keysA_D]; rfl
theorem keyY_k (k : Key) : keyY (keyD k) = some (.k k) := by cases k <;> rfl
def lookY (kvs : List (D × D)) (k : KY) : Option D := match kvs with
  | [] => none
  | kv :: r => if keyY kv.1 = some k then some kv.2 else lookY r k
def setY (kvs : List (D × D)) (k : KY) (d : D) : List (D × D) := kvs.map fun kv => if keyY kv.1 = some k then (kv.1, d) else kv
def putY (kvs : List (D × D)) (k : KY) (d : D) : List (D × D) := match lookY kvs k with
  | some _ => setY kvs k d
  | none => kvs ++ [(k.d, d)]
def dropY (kvs : List (D × D)) (k : KY) : List (D × D) := kvs.filter fun kv => decide (keyY kv.1 ≠ some k)
section
variable {E : Ev} {A : Addr → Prop} {H : Hp}
def RelR (E : Ev) (A : Addr → Prop) (H : Hp) (a : Option V) (b : Option D) : Prop := (a = none ∧ b = none) ∨ ∃ v d, a = some v ∧ b = some d ∧ Rep E A H v d
theorem EntsT.look {xs : List (List Key × V)} {kvs : List (D × D)} (r : EntsT E A H xs kvs) (k : List Key) : RelR E A H (valV xs k) (lookY kvs (.t k)) := by
  induction xs generalizing kvs with
  | nil => cases r; exact .inl ⟨rfl, rfl⟩
  | cons p xs ih =>
    cases r with
    | cons n r t =>
      rename_i k' v d kvs
      unfold lookY
      rw [keyY_t n]
      by_cases e : k' = k
      · rw [valV_pos (p := (k', v)) e, if_pos (by rw [e])]; exact .inr ⟨_, _, rfl, rfl, r⟩
      · rw [valV_neg (p := (k', v)) e, if_neg (fun z => e (by injection z with z; injection z))]; exact ih t
theorem EntsK.look {xs : List (Key × V)} {kvs : List (D × D)} (r : EntsK E A H xs kvs) (k : Key) : RelR E A H (valV xs k) (lookY kvs (.k k)) := by
  induction xs generalizing kvs with
  | nil => cases r; exact .inl ⟨rfl, rfl⟩
  | cons p xs ih =>
    cases r with
    | cons r t =>
      rename_i k' v d kvs
      unfold lookY
      rw [keyY_k]
      by_cases e : k' = k
      · rw [valV_pos (p := (k', v)) e, if_pos (by rw [e])]; exact .inr ⟨_, _, rfl, rfl, r⟩
      · rw [valV_neg (p := (k', v)) e, if_neg (fun z => e (by injection z with z; injection z))]; exact ih t
theorem EntsT.set {xs : List (List Key × V)} {kvs : List (D × D)} {k : List Key} {v : V} {d : D} (r : EntsT E A H xs kvs) (rv : Rep E A H v d) : EntsT E A H (xs.map fun kv => if kv.1 = k then (kv.1, v) else kv) (setY kvs (.t k) d) := by
  induction xs generalizing kvs with
  | nil => cases r; exact .nil
  | cons p xs ih =>
    cases r with
    | cons n r t =>
      rename_i k' v' d' kvs
      unfold setY
      rw [List.map_cons, List.map_cons]
      dsimp only
      rw [keyY_t n]
      by_cases e : k' = k
      · rw [if_pos e, if_pos (by rw [e])]; exact .cons n rv (ih t)
      · rw [if_neg e, if_neg (fun z => e (by injection z with z; injection z))]; exact .cons n r (ih t)
theorem EntsK.set {xs : List (Key × V)} {kvs : List (D × D)} {k : Key} {v : V} {d : D} (r : EntsK E A H xs kvs) (rv : Rep E A H v d) : EntsK E A H (xs.map fun kv => if kv.1 = k then (kv.1, v) else kv) (setY kvs (.k k) d) := by
  induction xs generalizing kvs with
  | nil => cases r; exact .nil
  | cons p xs ih =>
    cases r with
    | cons r t =>
      rename_i k' v' d' kvs
      unfold setY
      rw [List.map_cons, List.map_cons]
      dsimp only
      rw [keyY_k]
      by_cases e : k' = k
      · rw [if_pos e, if_pos (by rw [e])]; exact .cons rv (ih t)
      · rw [if_neg e, if_neg (fun z => e (by injection z with z; injection z))]; exact .cons r (ih t)
theorem EntsT.snoc {k : List Key} {v : V} {d : D} (hk : k ≠ []) (rv : Rep E A H v d) : ∀ {xs : List (List Key × V)} {kvs : List (D × D)}, EntsT E A H xs kvs → EntsT E A H (xs ++ [(k, v)]) (kvs ++ [((KY.t k).d, d)])
  | _, _, .nil => EntsT.cons (k := k) hk rv .nil
  | _, _, .cons n r t => .cons n r (t.snoc hk rv)
theorem EntsK.snoc {k : Key} {v : V} {d : D} (rv : Rep E A H v d) : ∀ {xs : List (Key × V)} {kvs : List (D × D)}, EntsK E A H xs kvs → EntsK E A H (xs ++ [(k, v)]) (kvs ++ [((KY.k k).d, d)])
  | _, _, .nil => EntsK.cons (k := k) rv .nil
  | _, _, .cons r t => .cons r (t.snoc rv)
theorem EntsT.put {xs : List (List Key × V)} {kvs : List (D × D)} {k : List Key} {v : V} {d : D} (r : EntsT E A H xs kvs) (hk : k ≠ []) (rv : Rep E A H v d) : EntsT E A H (putK xs k v) (putY kvs (.t k) d) := by
  unfold putK putY
  rw [valV_any]
  rcases r.look k with ⟨h1, h2⟩ | ⟨v', d', h1, h2, _⟩
  · rw [h1, h2]; exact r.snoc hk rv
  · rw [h1, h2]; exact r.set rv
theorem EntsK.put {xs : List (Key × V)} {kvs : List (D × D)} {k : Key} {v : V} {d : D} (r : EntsK E A H xs kvs) (rv : Rep E A H v d) : EntsK E A H (putK xs k v) (putY kvs (.k k) d) := by
  unfold putK putY
  rw [valV_any]
  rcases r.look k with ⟨h1, h2⟩ | ⟨v', d', h1, h2, _⟩
  · rw [h1, h2]; exact r.snoc rv
  · rw [h1, h2]; exact r.set rv
theorem putK_ne {κ : Type} [DecidableEq κ] (kvs : List (κ × V)) (k : κ) (v : V) : putK kvs k v ≠ [] := by
  unfold putK
  split
  · rename_i h
    cases kvs with
    | nil => simp at h
    | cons p r => simp
  · simp
theorem EntsT.length : ∀ {xs : List (List Key × V)} {kvs : List (D × D)}, EntsT E A H xs kvs → xs.length = kvs.length
  | _, _, .nil => rfl
  | _, _, .cons _ _ t => by simp [t.length]
theorem EntsK.length : ∀ {xs : List (Key × V)} {kvs : List (D × D)}, EntsK E A H xs kvs → xs.length = kvs.length
  | _, _, .nil => rfl
  | _, _, .cons _ t => by simp [t.length]
theorem EntsT.get : ∀ {xs : List (List Key × V)} {kvs : List (D × D)} {i : Nat} {kv : D × D}, EntsT E A H xs kvs → kvs[i]? = some kv → ∃ k v, xs[i]? = some (k, v) ∧ k ≠ [] ∧ kv.1 = .tuple (k.map keyD) ∧ Rep E A H v kv.2
  | _, _, _, _, .nil, e => by simp at e
  | _, _, 0, _, .cons n r _, e => by simp at e; subst e; exact ⟨_, _, rfl, n, rfl, r⟩
  | _, _, i + 1, kv, .cons _ _ t, e => by
    obtain ⟨k, v, h1, h2⟩ := EntsT.get (i := i) (kv := kv) t (by simpa using e)
    exact ⟨k, v, by simpa using h1, h2⟩
theorem Reps.keys : ∀ {vs : List V} {ds : List D} {ks : List Key}, Reps E A H vs ds → keysA ds = some ks → vs = ks.map kV
  | _, _, ks, .nil, e => by cases e; rfl
  | _, _, ks, .cons r t, e => by
    unfold keysA at e
    simp only [Option.bind_eq_some_iff, Option.map_eq_some_iff] at e
    obtain ⟨k, h1, ks', h2, h3⟩ := e
    subst h3
    rw [List.map_cons, Reps.keys t h2]
    cases r <;> simp only [keyA] at h1
    all_goals first | (cases h1; done) | skip
    · cases h1; rfl
    · cases h1; rfl
theorem Rep.ofKeys : ∀ (ks : List Key), Reps E A H (ks.map kV) (ks.map keyD)
  | [] => .nil
  | .inl i :: ks => .cons (.int i) (Rep.ofKeys ks)
  | .inr x :: ks => .cons (.str x) (Rep.ofKeys ks)
/-- a datum that is a key, as DGet wants it -/
theorem Rep.keyT {v : V} {d : D} {ks : List Key} (r : Rep E A H v d) (h : keyY d = some (.t ks)) : ∃ b, v = .ref b ∧ H b = some (.tup (ks.map kV)) ∧ ks ≠ [] := by
  cases r <;> simp only [keyY] at h
  all_goals first | (cases h; done) | skip
  · rename_i a xs ds e r
    cases ds with
    | nil => simp [keyY] at h
    | cons d0 dr =>
      simp only [keyY, Option.map_eq_some_iff] at h
      obtain ⟨ks', h1, h2⟩ := h
      cases h2
      rcases e with ⟨_, e⟩ | ⟨e, _⟩
      · refine ⟨a, rfl, by rw [← r.keys h1]; exact e, fun z => ?_⟩
        rw [z] at h1
        unfold keysA at h1
        simp only [Option.bind_eq_some_iff, Option.map_eq_some_iff] at h1
        obtain ⟨k, _, ks, _, z⟩ := h1
        cases z
      · subst e; cases r
theorem Rep.keyK {v : V} {d : D} {k : Key} (r : Rep E A H v d) (h : keyY d = some (.k k)) : v = kV k := by
  cases r <;> simp only [keyY] at h
  all_goals first | (cases h; done) | skip
  · cases h; rfl
  · cases h; rfl
  · rename_i a xs ds e r
    cases ds <;> simp [keyY] at h
theorem EntsT.ok {xs : List (List Key × V)} {kvs : List (D × D)} {q : Key} (r : EntsT E A H xs kvs) : okY kvs (.k q) = false := by
  cases r with
  | nil => rfl
  | cons _ _ _ => rfl
theorem EntsK.ok {xs : List (Key × V)} {kvs : List (D × D)} {ks : List Key} (r : EntsK E A H xs kvs) (n : xs ≠ []) : okY kvs (.t ks) = false := by
  cases r with
  | nil => exact absurd rfl n
  | cons _ _ => exact isT_k _
/-- what a dict as a datum holds -/
theorem Rep.dget {v u : V} {d : D} {kvs : List (D × D)} {k : KY} (rd : Rep E A H u (.dict kvs)) (r : Rep E A H v d) (h : keyY d = some k) (ok : okY kvs k = true) : ∃ a o, u = .ref a ∧ DGet H a v o ∧ RelR E A H o (lookY kvs k) ∧ IsD H a := by
  cases rd with
  | dt n e en =>
    rename_i a o xs
    cases k with
    | t ks =>
      obtain ⟨b, rfl, hb, _⟩ := r.keyT h
      exact ⟨a, _, rfl, .inr ⟨xs, ks, b, .inr ⟨o, e⟩, rfl, hb, rfl⟩, en.look ks, .inr ⟨xs, .inr ⟨o, e⟩⟩⟩
    | k q => rw [en.ok] at ok; cases ok
  | dk n e en z =>
    rename_i a o xs
    cases k with
    | k q => rw [r.keyK h]; exact ⟨a, _, rfl, .inl ⟨xs, q, .inr ⟨o, e⟩, rfl, rfl⟩, en.look q, .inl ⟨xs, .inr ⟨o, e⟩⟩⟩
    | t ks => rw [en.ok z] at ok; cases ok
/-- .. a dict of one's own -/
theorem Top.dget {v : V} {d : D} {kvs : List (D × D)} {k : KY} {a : Addr} (rd : Top E A H a (.dict kvs)) (r : Rep E A H v d) (h : keyY d = some k) (ok : okY kvs k = true) : ∃ o, DGet H a v o ∧ RelR E A H o (lookY kvs k) ∧ IsD H a := by
  rcases rd with ⟨xs, e, en⟩ | ⟨xs, e, en, z⟩
  · cases k with
    | t ks =>
      obtain ⟨b, rfl, hb, _⟩ := r.keyT h
      exact ⟨_, .inr ⟨xs, ks, b, .inl e, rfl, hb, rfl⟩, en.look ks, .inr ⟨xs, .inl e⟩⟩
    | k q => rw [en.ok] at ok; cases ok
  · cases k with
    | k q => rw [r.keyK h]; exact ⟨_, .inl ⟨xs, q, .inl e, rfl, rfl⟩, en.look q, .inl ⟨xs, .inl e⟩⟩
    | t ks => rw [en.ok z] at ok; cases ok
theorem Top.dput {v w : V} {d e : D} {kvs : List (D × D)} {k : KY} {a : Addr} (rd : Top E A H a (.dict kvs)) (ha : A a) (r : Rep E A H v d) (rw' : Rep E A H w e) (h : keyY d = some k) (ok : okY kvs k = true) (hl : kvs.length < 100000) : ∃ o, DPut H a v w (upd H a o) ∧ Top E A (upd H a o) a (.dict (putY kvs k e)) := by
  have f : ∀ o, Fz A A H (upd H a o) := fun o b u n e => ⟨n, by rw [upd_ne (fun z => n (by rw [z]; exact ha))]; exact e⟩
  rcases rd with ⟨xs, e, en⟩ | ⟨xs, e, en, z⟩
  · cases k with
    | t ks =>
      obtain ⟨b, rfl, hb, nk⟩ := r.keyT h
      exact ⟨_, .inr ⟨xs, ks, b, e, rfl, hb, line_lt (by rw [en.length]; exact hl), rfl⟩, .inl ⟨_, upd_same, (en.put nk rw').fz (f _)⟩⟩
    | k q => rw [en.ok] at ok; cases ok
  · cases k with
    | k q => rw [r.keyK h]; exact ⟨_, .inl ⟨xs, q, e, rfl, line_lt (by rw [en.length]; exact hl), rfl⟩, .inr ⟨_, upd_same, (en.put rw').fz (f _), putK_ne _ _ _⟩⟩
    | t ks => rw [en.ok z] at ok; cases ok
end
/-! ### rules -/
def getY (c k : D) : Option (Option D) := match c with
  | .dict kvs => (keyY k).bind fun q => if okY kvs q = true then some (lookY kvs q) else none
  | _ => none
def isSomeB {α : Type} : Option α → Bool
  | some _ => true
  | none => false
def inY (k c : D) : Option D := (getY c k).map fun o => .bool (isSomeB o)
def notInY (k c : D) : Option D := (getY c k).map fun o => .bool (!isSomeB o)
def ixY (c k : D) : Option D := (getY c k).bind id
theorem RelR.some {E : Ev} {A : Addr → Prop} {H : Hp} {o : Option V} {b : Option D} (r : RelR E A H o b) : o.isSome = isSomeB b := by
  rcases r with ⟨rfl, rfl⟩ | ⟨v, d, rfl, rfl, _⟩ <;> rfl
def rDIn (neg : Bool) : R2 := fun x y H Q => ∃ a o, y = .ref a ∧ DGet H a x o ∧ Q (.bl (if neg then !o.isSome else o.isSome)) H
theorem op_dIn {X : Cx} (hu : X.A.units + 1 < cLine) : OpR X (compareOp .In) (rDIn false) := by
  intro pins s σ H x y v u Q I rx ry ⟨a, o, e, g, q⟩
  subst e
  obtain rfl : u = Value.ref a := ry
  exact d_in hu I g rx fun s' I' => ⟨.bl o.isSome, H, I', rfl, q⟩
theorem op_dNotIn {X : Cx} (hu : X.A.units + 1 < cLine) : OpR X (compareOp .NotIn) (rDIn true) := by
  intro pins s σ H x y v u Q I rx ry ⟨a, o, e, g, q⟩
  subst e
  obtain rfl : u = Value.ref a := ry
  exact d_notIn hu I g rx fun s' I' => ⟨.bl (!o.isSome), H, I', rfl, q⟩
theorem getY_some {c k : D} {o : Option D} (h : getY c k = some o) : ∃ kvs q, c = .dict kvs ∧ keyY k = some q ∧ okY kvs q = true ∧ o = lookY kvs q := by
  unfold getY at h
  split at h
  · simp only [Option.bind_eq_some_iff] at h
    obtain ⟨q, h1, h2⟩ := h
    split at h2
    · cases h2; exact ⟨_, q, rfl, h1, by assumption, rfl⟩
    · cases h2
  · cases h
theorem sr_dIn {E : Ev} : SndRS E (rDIn false) inY := by
  intro A H x y dx dy dz rx ry e Q hq
  unfold inY at e
  simp only [Option.map_eq_some_iff] at e
  obtain ⟨o, h1, h2⟩ := e
  obtain ⟨kvs, q, rfl, h3, h4, rfl⟩ := getY_some h1
  cases h2
  obtain ⟨a, o, rfl, g, rr, _⟩ := ry.dget rx h3 h4
  refine ⟨a, o, rfl, g, ?_⟩
  rw [if_neg Bool.false_ne_true, rr.some]
  exact hq _ fun _ _ => .bl _
theorem sr_dNotIn {E : Ev} : SndRS E (rDIn true) notInY := by
  intro A H x y dx dy dz rx ry e Q hq
  unfold notInY at e
  simp only [Option.map_eq_some_iff] at e
  obtain ⟨o, h1, h2⟩ := e
  obtain ⟨kvs, q, rfl, h3, h4, rfl⟩ := getY_some h1
  cases h2
  obtain ⟨a, o, rfl, g, rr, _⟩ := ry.dget rx h3 h4
  refine ⟨a, o, rfl, g, ?_⟩
  rw [if_pos rfl, rr.some]
  exact hq _ fun _ _ => .bl _
section
variable {X : Cx} {a b c e : Expr} {f f1 f2 f3 : Fe} {pos p' p2 : Pos} {i : Nat} {x : Str}
theorem ve_inY (hu : X.A.units + 1 < cLine) (ha : VE X a f1) (hb : VE X b f2) (hm : behindInMarks .In b = false := by rfl) : VE X (.Compare a [.In] [b] pos) (eBin inY f1 f2) := ve_cmp (op_dIn hu) sr_dIn.r ha hb hm
theorem vt_inY (hu : X.A.units + 1 < cLine) (ha : VE X a f1) (hb : VE X b f2) (hm : behindInMarks .In b = false := by rfl) : VT X (.Compare a [.In] [b] pos) (eBin inY f1 f2) := vt_cmp (op_dIn hu) sr_dIn.r ha hb hm
theorem ve_notInY (hu : X.A.units + 1 < cLine) (ha : VE X a f1) (hb : VE X b f2) (hm : behindInMarks .NotIn b = false := by rfl) : VE X (.Compare a [.NotIn] [b] pos) (eBin notInY f1 f2) := ve_cmp (op_dNotIn hu) sr_dNotIn.r ha hb hm
theorem vt_notInY (hu : X.A.units + 1 < cLine) (ha : VE X a f1) (hb : VE X b f2) (hm : behindInMarks .NotIn b = false := by rfl) : VT X (.Compare a [.NotIn] [b] pos) (eBin notInY f1 f2) := vt_cmp (op_dNotIn hu) sr_dNotIn.r ha hb hm
/-- d[k] of a datum -/
theorem ve_ixY (hu : X.A.units + 1 < cLine) (ha : VE X a f1) (hb : VE X b f2) (hs : NoSl b := by exact fun _ _ => rfl) : VE X (.Subscript a b pos) (eBin ixY f1 f2) := by
  obtain ⟨ta, pa, sa⟩ := ha.ex
  obtain ⟨tb, pb, sb⟩ := hb.ex
  refine ⟨_, pe_dget hu pa pb hs, ?_⟩
  intro G W σ H s d s' R hf Q hq
  unfold eBin at hf
  simp only [Option.bind_eq_some_iff, Option.map_eq_some_iff] at hf
  obtain ⟨⟨dx, s1⟩, e1, ⟨dy, s2⟩, e2, z, e3, e4⟩ := hf
  cases e4
  refine sa G W σ H s dx s1 R e1 _ fun u H1 R1 z1 p1 => sb G W σ H1 s1 dy s2 R1 e2 _ fun v H2 R2 z2 p2 => ?_
  unfold ixY at e3
  simp only [Option.bind_eq_some_iff, id] at e3
  obtain ⟨o, h1, h2⟩ := e3
  obtain ⟨kvs, q, rfl, h3, h4, rfl⟩ := getY_some h1
  obtain ⟨a, o, rfl, g, rr, _⟩ := (p1.fz z2).dget p2 h3 h4
  rcases rr with ⟨_, z⟩ | ⟨v', d', rfl, z, rv⟩
  · rw [h2] at z; cases z
  · rw [h2] at z; cases z
    exact ⟨a, v', rfl, g, hq v' H2 R2 (z1.trans z2) rv⟩
/-- own dicts -/
def S.ownY (s : S) (i : Nat) : Option (List (D × D)) := match s.rho[i]? with
  | some (.own (.dict kvs)) => some kvs
  | _ => none
theorem ownY_some {s : S} {kvs : List (D × D)} (h : s.ownY i = some kvs) : s.rho[i]? = some (.own (.dict kvs)) := by
  unfold S.ownY at h
  split at h
  · rename_i e; cases h; exact e
  · cases h
/-- {} -/
theorem vf_dict0 : VF X (.Dict [] [] pos) (eC (.dict [])) := by
  refine ⟨_, pe_dnewT, fun G W σ H s d s' R hf Q hq => ?_⟩
  cases hf
  exact fun p hn => hq p _ hn (R.laid hn) (Fz.laid hn G W) (.inl ⟨[], upd_same, .nil⟩)
def eDO (i : Nat) (g : D → D → Option D) (f : Fe) : Fe := fun s => (f s).bind fun (y, s1) => (s1.ownY i).bind fun kvs => (g y (.dict kvs)).map fun z => (z, s1)
theorem snd_inYO {E : Ev} {t : TE} (sn : SndE E t f) : SndE E (tOp (rDIn false) t (tVar i)) (eDO i inY f) := by
  intro G W σ H s d s' R hf Q hq
  unfold eDO at hf
  simp only [Option.bind_eq_some_iff, Option.map_eq_some_iff] at hf
  obtain ⟨⟨y, s1⟩, e1, kvs, e2, z, e3, e4⟩ := hf
  cases e4
  refine sn G W σ H s y _ R e1 _ fun v H1 R1 z1 p1 => ?_
  obtain ⟨a, w1, w2, t1⟩ := R1.own i _ (ownY_some e2)
  refine ⟨_, w2, ?_⟩
  unfold inY at e3
  simp only [Option.map_eq_some_iff] at e3
  obtain ⟨o, h1, h2⟩ := e3
  obtain ⟨kvs', q, h0, h3, h4, rfl⟩ := getY_some h1
  cases h0
  cases h2
  obtain ⟨o, g, rr, _⟩ := t1.dget p1 h3 h4
  refine ⟨a, o, rfl, g, ?_⟩
  rw [if_neg Bool.false_ne_true, rr.some]
  exact hq _ H1 R1 z1 (.bl _)
theorem snd_notInYO {E : Ev} {t : TE} (sn : SndE E t f) : SndE E (tOp (rDIn true) t (tVar i)) (eDO i notInY f) := by
  intro G W σ H s d s' R hf Q hq
  unfold eDO at hf
  simp only [Option.bind_eq_some_iff, Option.map_eq_some_iff] at hf
  obtain ⟨⟨y, s1⟩, e1, kvs, e2, z, e3, e4⟩ := hf
  cases e4
  refine sn G W σ H s y _ R e1 _ fun v H1 R1 z1 p1 => ?_
  obtain ⟨a, w1, w2, t1⟩ := R1.own i _ (ownY_some e2)
  refine ⟨_, w2, ?_⟩
  unfold notInY at e3
  simp only [Option.map_eq_some_iff] at e3
  obtain ⟨o, h1, h2⟩ := e3
  obtain ⟨kvs', q, h0, h3, h4, rfl⟩ := getY_some h1
  cases h0
  cases h2
  obtain ⟨o, g, rr, _⟩ := t1.dget p1 h3 h4
  refine ⟨a, o, rfl, g, ?_⟩
  rw [if_pos rfl, rr.some]
  exact hq _ H1 R1 z1 (.bl _)
theorem ve_inYO (i : Nat) (nv : NV X i x) (hu : X.A.units + 1 < cLine) (hb : VE X b f) (hm : behindInMarks .In (.Name x p') = false := by rfl) : VE X (.Compare b [.In] [.Name x p'] pos) (eDO i inY f) := by
  obtain ⟨t, p, sn⟩ := hb.ex
  exact ⟨_, pe_cmpR (op_dIn hu) p (pe_var nv.hN nv.hv nv.hd nv.hcd) hm, snd_inYO sn⟩
theorem vt_inYO (i : Nat) (nv : NV X i x) (hu : X.A.units + 1 < cLine) (hb : VE X b f) (hm : behindInMarks .In (.Name x p') = false := by rfl) : VT X (.Compare b [.In] [.Name x p'] pos) (eDO i inY f) := by
  obtain ⟨t, p, sn⟩ := hb.ex
  exact ⟨_, pt_cmpR (op_dIn hu) p (pe_var nv.hN nv.hv nv.hd nv.hcd) hm, snd_test (snd_inYO sn)⟩
theorem ve_notInYO (i : Nat) (nv : NV X i x) (hu : X.A.units + 1 < cLine) (hb : VE X b f) (hm : behindInMarks .NotIn (.Name x p') = false := by rfl) : VE X (.Compare b [.NotIn] [.Name x p'] pos) (eDO i notInY f) := by
  obtain ⟨t, p, sn⟩ := hb.ex
  exact ⟨_, pe_cmpR (op_dNotIn hu) p (pe_var nv.hN nv.hv nv.hd nv.hcd) hm, snd_notInYO sn⟩
theorem vt_notInYO (i : Nat) (nv : NV X i x) (hu : X.A.units + 1 < cLine) (hb : VE X b f) (hm : behindInMarks .NotIn (.Name x p') = false := by rfl) : VT X (.Compare b [.NotIn] [.Name x p'] pos) (eDO i notInY f) := by
  obtain ⟨t, p, sn⟩ := hb.ex
  exact ⟨_, pt_cmpR (op_dNotIn hu) p (pe_var nv.hN nv.hv nv.hd nv.hcd) hm, snd_test (snd_notInYO sn)⟩
/-- d[k] of an own dict -/
def eIxYO (i : Nat) (f : Fe) : Fe := fun s => (s.ownY i).bind fun _ => (f s).bind fun (y, s1) => (s1.ownY i).bind fun kvs => (ixY (.dict kvs) y).map fun z => (z, s1)
theorem ve_ixYO (i : Nat) (nv : NV X i x) (hu : X.A.units + 1 < cLine) (hb : VE X b f) (hs : NoSl b := by exact fun _ _ => rfl) : VE X (.Subscript (.Name x p') b pos) (eIxYO i f) := by
  obtain ⟨t, p, sn⟩ := hb.ex
  refine ⟨_, pe_dget hu (pe_var nv.hN nv.hv nv.hd nv.hcd) p hs, ?_⟩
  intro G W σ H s d s' R hf Q hq
  unfold eIxYO at hf
  simp only [Option.bind_eq_some_iff, Option.map_eq_some_iff] at hf
  obtain ⟨kvs0, e0, ⟨y, s1⟩, e1, kvs, e2, z, e3, e4⟩ := hf
  cases e4
  obtain ⟨a, w1, w2, t0⟩ := R.own i _ (ownY_some e0)
  refine ⟨_, w2, sn G W σ H s y _ R e1 _ fun v H1 R1 z1 p1 => ?_⟩
  obtain ⟨a', w1', w2', t1⟩ := R1.own i _ (ownY_some e2)
  rw [w1] at w1'; cases w1'
  unfold ixY at e3
  simp only [Option.bind_eq_some_iff, id] at e3
  obtain ⟨o, h1, h2⟩ := e3
  obtain ⟨kvs', q, h0, h3, h4, rfl⟩ := getY_some h1
  cases h0
  obtain ⟨o, g, rr, _⟩ := t1.dget p1 h3 h4
  rcases rr with ⟨_, z⟩ | ⟨v', d', rfl, z, rv⟩
  · rw [h2] at z; cases z
  · rw [h2] at z; cases z
    exact ⟨a, v', rfl, g, hq v' H1 R1 z1 rv⟩
/-- d[k] = v, of an own dict: first v, then k -/
def sPutY (i : Nat) (fk fv : Fe) : Fs := fun s => (fv s).bind fun (z, s1) => (s1.ownY i).bind fun _ => (fk s1).bind fun (y, s2) => (s2.ownY i).bind fun kvs => (keyY y).bind fun q =>
  if okY kvs q = true ∧ kvs.length < 100000 then some (.next, s2.put i (.own (.dict (putY kvs q z)))) else none
theorem vs_putY (i : Nat) (nv : NV X i x) (hu : X.A.units + 1 < cLine) (hk : VE X b f1) (hv : VE X e f2) (hs : swapsWith e (some (.Subscript (.Name x p') b p2)) pos.line X.env = pure false := by rfl) : VS X (.Assign [.Subscript (.Name x p') b p2] e pos) (sPutY i f1 f2) := by
  obtain ⟨tk, pk, sk⟩ := hk.ex
  obtain ⟨tv, pv, sv⟩ := hv.ex
  refine ⟨_, ps_dput hu (pe_var nv.hN nv.hv nv.hd nv.hcd) pk pv hs, fun G W σ H s Dn R po => ?_⟩
  unfold sPutY at po
  match e0 : f2 s, po with
  | none, po => exact po.elim
  | some (z, s1), po =>
    dsimp only [Option.bind] at po
    match e1 : s1.ownY i, po with
    | none, po => exact po.elim
    | some kvs0, po =>
      dsimp only at po
      match e2 : f1 s1, po with
      | none, po => exact po.elim
      | some (y, s2), po =>
        dsimp only at po
        match e3 : s2.ownY i, po with
        | none, po => exact po.elim
        | some kvs, po =>
          dsimp only at po
          match e4 : keyY y, po with
          | none, po => exact po.elim
          | some q, po =>
            dsimp only at po
            split at po
            · rename_i hc
              refine sv G W σ H s z s1 R e0 _ fun u H1 R1 z1 p1 => ?_
              obtain ⟨a, w1, w2, _⟩ := R1.own i _ (ownY_some e1)
              refine ⟨_, w2, sk G W σ H1 s1 y s2 R1 e2 _ fun v H2 R2 z2 p2 => ?_⟩
              obtain ⟨a', w1', _, t2⟩ := R2.own i _ (ownY_some e3)
              rw [w1] at w1'; cases w1'
              have av : Av G W a := .inr (.inl ⟨i, w1⟩)
              obtain ⟨o, dp, tp⟩ := t2.dput av p2 (p1.fz z2) e4 hc.1 hc.2
              exact ⟨a, _, rfl, dp, po W σ _ (R2.turn (ownY_some e3) w1 tp) ((z1.trans z2).trans (Fz.turn av)) Wk.refl⟩
            · exact po.elim
/-! ### walks over the keys of a dict that is a datum -/
def keysD : D → Option (List D)
  | .dict kvs => if okY kvs (.t []) = true then some (kvs.map (·.1)) else none
  | _ => none
def iterK (f : Fe) : Fa := fun s => (f s).bind fun (d, s1) => (keysD d).map fun ds => (ds, s1)
theorem vi_keys {tg : Expr} (h : VE X e f) : VI X tg e (iterK f) := by
  obtain ⟨t, p, sn⟩ := h.ex
  refine ⟨_, pi_keys p, ?_⟩
  intro G W σ H s ds s' R hf Rq hR
  unfold iterK at hf
  simp only [Option.bind_eq_some_iff, Option.map_eq_some_iff] at hf
  obtain ⟨⟨d, s1⟩, e1, ys, e2, e3⟩ := hf
  cases e3
  refine sn G W σ H s d _ R e1 _ fun v H1 R1 z1 p1 => ?_
  cases p1 <;> simp only [keysD] at e2
  all_goals first | (cases e2; done) | skip
  · rename_i a o xs kvs n e4 en
    split at e2
    · cases e2
      refine ⟨a, o, rfl, .inr ⟨xs, e4, hR _ H1 (fun H => H a = some (.frz o (.dT xs))) _ R1 z1 ⟨by rw [List.length_map, ← en.length]; exact walk_keysT, fun B H' z => (z a _ n e4).2, fun B i H' y H'' z fr hi hy => ?_⟩⟩⟩
      obtain ⟨rfl, k, w, q, hk, rfl, hq⟩ := hy
      rw [List.length_map] at hi
      obtain ⟨k', v', h1, nk, h2, _⟩ := en.get (List.getElem?_eq_getElem hi)
      rw [hk] at h1; cases h1
      refine ⟨Same.refl _, .tuple (k.map keyD), ?_, .tup (.inl ⟨fr.tup hq, hq⟩) (Rep.ofKeys k)⟩
      rw [List.getElem?_map, List.getElem?_eq_getElem hi, Option.map_some, h2]
    · cases e2
  · rename_i a o xs kvs n e4 en z
    rw [if_neg (by rw [en.ok z]; exact Bool.false_ne_true)] at e2
    cases e2
end
end Fx
-- Fset0
namespace Fx
open PySem PySem.Spec PyProof.Rows L2
section
variable {P : Program} {w : World} {A : Around} {E : Value → Shared → Prop} {s : Shared}
abbrev set00 (w : World) : Obj := { cls := .type "set", dict := none, data := .set #[] 0 (.fresh 0 0 (!w.params.followText "set-order")) }
/-- set(xs), xs a list of ints -/
theorem set_of_ints {l : Addr} {items : Array Value} (ns : List Int) {Q : Value → Shared → Prop} (hh : A.handled = none) (hl : s.heap.IsList l items) (hit : IntsAre items.toList ns) (hb : ns.length + 1 < scanBound)
    (h : ∀ (h' : Heap) (tk c : Nat), SetR w h' s.heap.objs.size (fun j => decide (j ∈ ns)) c → c ≤ ns.length → (∀ b o, s.heap.get? b = some o → h'.get? b = some o) → Q (.ref s.heap.objs.size) { s with heap := h', toks := tk }) :
    wpAny (model P w) A (call (.type "set") [.ref l]) Q E s := by
  have hisz : items.size = ns.length := by have q := IntsAre.length hit; rw [Array.length_toList] at q; exact q
  obtain ⟨c, tl, hmro⟩ := F.called_set.mro
  have hmade := F.called_set.made; have hsub := F.called_set.sub
  refine wpAny_call (codeAny_of_tree ?_)
  show wpAny _ _ (callAny (.type "set") _) _ _ _
  refine wpAny_pure ⟨Code.quiet_builtin _ (by decide +kernel), codeAny_builtin F.entry_type_call ?_⟩
  rw [Around.under_plain (weight_type_call_type "set" [.ref l] []) rfl]
  have h1 := F.called_set.notType; have h2 := F.called_set.canCreate; have hct := F.typeCall_set_1 (.ref l)
  repeat (any_goals (first | assumption | wp_step))
  refine codeAny_mono (code_set_led1 (.ref l) (E := E) (Q₁ := fun obj s₁ => obj = .ref s.heap.objs.size ∧ s₁ = { s with heap := s.heap.push (set00 w) }) ⟨rfl, rfl⟩) fun r s₁ hr => ?_
  cases r with
  | error e => exact hr
  | ok fl =>
    cases fl with
    | ret obj =>
      obtain ⟨rfl, rfl⟩ := hr
      have hS : (s.heap.push (set00 w)).get? s.heap.objs.size = some (set00 w) := Heap.get?_push_size _ rfl
      have hT : Shared.TypeIs { s with heap := s.heap.push (set00 w) } (.ref s.heap.objs.size) "set" := ⟨_, hS, rfl⟩
      have hli := F.called_set.init.lookup; have hbi := F.called_set.init.bind (.ref s.heap.objs.size)
      repeat (any_goals (first | assumption | wp_step))
      refine codeAny_mono (codeAny_call_builtin (R := wants (fun r s₂ => r = .none ∧ ∃ h' tk c, s₂ = { s with heap := h', toks := tk } ∧ SetR w h' s.heap.objs.size (fun j => decide (j ∈ ns)) c ∧ c ≤ ns.length ∧ (∀ b o, s.heap.get? b = some o → h'.get? b = some o)) E) F.called_set.init.plain F.entry_set_init (check_set_init_1 hT ?_)) fun r₂ s₂ hr₂ => ?_
      · obtain ⟨ol, hol, hcl, nl, hdl⟩ := hl
        obtain ⟨ocls, odict, odata, oslots⟩ := ol
        simp only at hcl hdl
        subst hcl; subst hdl
        have hol' : (s.heap.push (set00 w)).get? l = some { cls := .type "list", dict := odict, data := .seq items nl, slots := oslots } := Heap.get?_push_of_some _ hol
        have hsls := F.sub_list_set
        have hslf := F.sub_list_frozenset
        have hne : (Value.type "list" == Value.type "dict") = false := by decide
        have hl1 : (s.heap.push (set00 w)).IsList l items := ⟨_, hol', rfl, nl, rfl⟩
        unfold Builtin.«set.__init__» noKeywords Builtin.Frozenset.updateFrom
        generalize hPI : pyIter = PI
        wp_walk
        subst hPI
        refine wpAny_pyIter_list hl1 ?_
        refine wpAny_bind (wpAny_runValue ?_)
        have hlS : l < s.heap.objs.size := Heap.lt_size hol
        have hh3 : A.in1.in1.in1.handled = none := by simp [hh]
        have hz1 : (s.heap.push (set00 w)).objs.size = s.heap.objs.size + 1 := Heap.size_push ..
        have hneI : l ≠ (s.heap.push (set00 w)).objs.size := by rw [Heap.size_push]; exact Nat.ne_of_lt (Nat.lt_succ_of_lt hlS)
        have hSf : s.heap.objs.size ∉ [(s.heap.push (set00 w)).objs.size, l] := by
          rw [Heap.size_push]; simp only [List.mem_cons, List.mem_singleton, List.not_mem_nil, or_false, not_or]; exact ⟨Nat.ne_of_lt (Nat.lt_succ_self _), Nat.ne_of_gt hlS⟩
        have hval : ∀ (i : Nat) (v : Value), items[i]? = some v → ∃ k t, ns[i]? = some k ∧ v = .int k t := fun i v hv => by
          have hi : i < ns.length := by rw [← hisz]; exact (Array.getElem?_eq_some_iff.mp hv).1
          obtain ⟨t, e⟩ := PyProof.Rows.IntsAre.int_at hit i v (by rw [Array.getElem?_toList]; exact hv)
          refine ⟨ns[i], t, List.getElem?_eq_getElem hi, ?_⟩
          rw [e, List.getD_eq_getElem?_getD, List.getElem?_eq_getElem hi] <;> rfl
        refine set_update_ints ((Walks.list hh3 _ l hneI items).toS) s.heap.objs.size hSf ns hisz hb hval (items.size - 0) 0 _ (by omega) (Nat.zero_le _) ⟨⟨_, Heap.get?_push_size _ rfl, rfl, rfl⟩, (hl1.push _)⟩ ?hS0 ?hR
        case hS0 => exact ⟨0, Nat.le_refl 0, setR_new_at (Heap.get?_push_of_some _ hS)⟩
        case hR =>
          intro s' c' hm hc' hS'
          obtain ⟨h', g2, d', tk', os'⟩ := s'
          have eg : g2 = s.gens := hm.gens
          have ed : d' = s.drawn := hm.drawn
          have eo : os' = s.os := hm.os
          subst eg; subst ed; subst eo
          show wpAny _ _ _ _ _ _
          refine wpAny_pure ?_
          show wpAny _ _ (ret Value.none) _ _ _
          rw [hisz] at hc'
          refine wpAny_pure ⟨rfl, h', tk', c', rfl, hS', hc', fun b o e => ?_⟩
          have hb0 : b < s.heap.objs.size := Heap.lt_size e
          have hb2 : b ≠ (s.heap.push (set00 w)).objs.size := by rw [Heap.size_push]; exact Nat.ne_of_lt (Nat.lt_succ_of_lt hb0)
          exact hm.heap b o (by simp only [List.mem_cons, List.mem_singleton, List.not_mem_nil, or_false, not_or]; exact ⟨Nat.ne_of_lt hb0, hb2⟩) (Heap.get?_push_of_some _ (Heap.get?_push_of_some _ e))
      · cases r₂ with
        | error e => exact hr₂
        | ok fl₂ =>
          cases fl₂ with
          | ret r =>
            obtain ⟨rfl, h', tk, c', rfl, hS', hc', hk'⟩ := hr₂
            repeat (any_goals (first | assumption | wp_step))
            exact h _ _ _ hS' hc' hk'
          | _ => exact hr₂.elim
    | _ => exact hr.elim
end
end Fx
-- Fset
namespace Fx
open PySem PySem.Spec PyProof.Rows L2
section
variable {P : Program} {w : World} {A : Around} {E : Value → Shared → Prop} {s : Shared}
/-- sorted(s), s a set of which the items read as data: some order of them, sorted -/
theorem sorted_of_set {a : Addr} {es : Array (Int × Value)} {ep : Nat} {t : SetTable} {Q : Value → Shared → Prop} {enc : Value → PyData} (hh : A.handled = none) (ha : SetAt s.heap a es ep t) (hf : t.fits es.size = true) (hb : es.size < scanBound) (hr : Ris t.place.toList)
    (hl : w.params.followText "set-order" = true ∨ t.led = true) (hrd : ∀ v ∈ es.toList.map (·.2), ∃ as, Reads s.heap v (enc v) as) (hal : ∀ v v', PySem.W.alike (enc v) (enc v') = true) (hk : (∀ v, ∃ x r, enc v = .tuple (x :: r)) ∨ (∀ v, enc v ≠ .none ∧ ∀ xs, enc v ≠ .tuple xs)) (hu : ∀ v, A.units + 9 + (enc v).depth < cLine)
    (hQ : ∀ s' p (vs out : List Value) (c : Nat), (∀ b o, s.heap.get? b = some o → s'.heap.get? b = some o) → s'.gens = s.gens → s'.os = s.os → s.heap.objs.size ≤ p → s'.heap.get? p = some (seqObj "list" out.toArray c) → vs.Perm (es.toList.map (·.2)) → out = vs.mergeSort (PySem.W.dataLe false enc) → Q (.ref p) s') :
    wpAny (model P w) A (call (.builtin "sorted") [.ref a]) Q E s := by
  refine Calls.call_function_entry kind_sorted plain_sorted entry_sorted (args_sorted1 _) ?_
  unfold Builtin.«sorted»
  refine wpAny_bind (m := checkCount "sorted" 1 1 _) (wpAny_pure ?_)
  refine wpAny_bind (collect_set (A := A.in1) hh ha hf hb hr hl fun s1 vs k1 hz g1 o1 pm => ?_)
  have hvl : vs.length = es.size := by rw [pm.length_eq, List.length_map, Array.length_toList]
  have hvz : vs.length ≤ sizeLine := by rw [hvl, sizeLine_eq]; unfold scanBound at hb; omega
  refine wpAny_bind (wpAny_newList ?_ hvz)
  have hoL : (s1.heap.push (seqObj "list" vs.toArray 0)).get? s1.heap.objs.size = some (seqObj "list" vs.toArray 0) := Heap.get?_push_size _ rfl
  have each : ∀ us : List Value, PySem.W.EachIs (fun u b => u = b) us us := fun us => by
    induction us with
    | nil => exact .nil
    | cons u us ih => exact .cons rfl ih
  have rds : ∀ us : List Value, (∀ v ∈ us, v ∈ vs) → PySem.W.EachIs (fun u (b : Value) => ∃ as, Reads (s1.heap.push (seqObj "list" vs.toArray 0)) u (enc b) as ∧ s1.heap.objs.size ∉ as) us us := fun us => by
    induction us with
    | nil => exact fun _ => .nil
    | cons u us ih =>
      intro hm
      refine .cons ?_ (ih fun v hv => hm v (List.mem_cons_of_mem _ hv))
      obtain ⟨as, rd⟩ := hrd u (pm.mem_iff.mp (hm u List.mem_cons_self))
      have rd1 : Reads s1.heap u (enc u) as := Reads.keeps k1 rd
      refine ⟨as, Reads.keeps (fun b o e => Heap.get?_push_of_some _ e) rd1, fun z => ?_⟩
      obtain ⟨o, e⟩ := PyProof.On.reads_mem_get rd1 _ z
      exact Nat.lt_irrefl _ (Heap.lt_size e)
  have hk' : PySem.W.Sortable (vs.map enc) := by
    rcases hk with hk | hk
    · exact PySem.W.Sortable.tuples hk
    · exact PySem.W.Sortable.others hk
  refine wpAny_bind (wpAny_holding (PySem.W.list_sort_data (s := { s1 with heap := s1.heap.push (seqObj "list" vs.toArray 0) }) (R := fun u b => u = b) (enc := enc) (bs := vs) hoL (each vs) (rds vs fun _ h => h) (PySem.W.AllAlike.of hal) hk' hvz (fun b _ => ?_) fun out ho he => ?_))
  · have := hu b
    show A.in1.units + 1 + (enc b).depth < cLine
    have e : A.in1.units ≤ A.units + 8 := ?_
    · omega
    · simp [Around.in1, Around.units]
  · have eo : out = vs.mergeSort (PySem.W.dataLe false enc) := by
      have q : ∀ {xs ys : List Value}, PySem.W.EachIs (fun u b => u = b) xs ys → xs = ys := fun {xs ys} h => by
        induction h with
        | nil => rfl
        | cons h _ ih => rw [h, ih]
      exact q he
    obtain ⟨c, hc⟩ := sortedHeap_at (vs := vs) (out := out.toArray) hoL
    refine wpAny_pure ⟨_, rfl, hQ _ s1.heap.objs.size vs out c (fun b u e => ?_) g1 o1 hz hc pm eo⟩
    have q := k1 b u e
    have hlt := Heap.lt_size q
    show (sortedHeap (s1.heap.push (seqObj "list" vs.toArray 0)) s1.heap.objs.size vs out.toArray).get? b = some u
    rw [sortedHeap_old (Nat.ne_of_lt hlt) (by rw [size_push']; exact Nat.lt_succ_of_lt hlt)]
    exact Heap.get?_push_of_some _ q
end
end Fx
-- FsetB
namespace Fx
open PySem PySem.Spec PyProof.Rows L2
theorem nd_len {α : Type} [DecidableEq α] : ∀ {l m : List α}, l.Nodup → (∀ x ∈ l, x ∈ m) → l.length ≤ m.length
  | [], _, _, _ => Nat.zero_le _
  | a :: l, m, n, h => by
    obtain ⟨n1, n2⟩ := List.nodup_cons.mp n
    have ha := h a List.mem_cons_self
    have := nd_len (m := m.erase a) n2 fun x hx => (List.mem_erase_of_ne (fun e => n1 (by rw [← e]; exact hx))).mpr (h x (List.mem_cons_of_mem _ hx))
    rw [List.length_erase_of_mem ha] at this
    have : 0 < m.length := List.length_pos_of_mem ha
    rw [List.length_cons]
    omega
/-! ### sets of tuples: as many as a table of 128 takes, from lists of any length -/
section
variable {P : Program} {w : World} {A : Around} {E : Value → Shared → Prop} {s : Shared}
abbrev Rw := List (Addr × List Int)
/-- the place in the table where the search of h stands behind c steps -/
abbrev stp (t : SetTable) (h : Int) (c : Nat) : SetTable.Probe := nth t.mask (runAt t.mask (SetTable.bits h % (t.mask + 1)) (SetTable.bits h)) c
structure TSet (P : Program) (w : World) (hp : Heap) (a : Addr) (L : Rw) (es : Array (Int × Value)) (ep : Nat) (t : SetTable) : Prop where
  obj : ∃ o, hp.get? a = some o ∧ o.ExactSet ∧ o.data = .set es ep t
  ent : es.toList = rowsOf P w L
  tbl : TabOk t (L.map fun p => thash P w p.2)
  one : (L.map (·.2)).Nodup
  tups : ∀ p ∈ L, IsT P w hp p.2 p.1
  pln : t.plain = true
  way' : w.params.followText "set-order" = true ∨ t.led = true
  spare : L.length * 5 < t.mask * 3
variable {a : Addr} {L : Rw} {es : Array (Int × Value)} {ep : Nat} {t : SetTable}
theorem rowsOf_len (h : es.toList = rowsOf P w L) : es.size = L.length := by
  rw [← Array.length_toList, h, rowsOf, List.length_map]
theorem fits_of (hs : t.place.size = es.size) (hd : t.dummies = #[]) (hm : es.size ≤ t.mask) : t.fits es.size = true := by
  unfold SetTable.fits SetTable.fill
  rw [hd, hs]
  simpa using hm
theorem TSet.len (T : TSet P w s.heap a L es ep t) : es.size = L.length := rowsOf_len T.ent
theorem TSet.plc (T : TSet P w s.heap a L es ep t) : t.place.size = L.length := by have := T.tbl.sz; rwa [List.length_map] at this
theorem TSet.fit (T : TSet P w s.heap a L es ep t) : t.fits es.size = true := fits_of (by rw [T.plc, T.len]) T.tbl.dm (by have := T.spare; rw [T.len]; omega)
theorem TSet.at (T : TSet P w s.heap a L es ep t) {i : Nat} {p : Addr × List Int} (h : L[i]? = some p) : es[i]? = some (thash P w p.2, Value.ref p.1) := by
  have e : es.toList[i]? = some (thash P w p.2, Value.ref p.1) := by
    rw [T.ent, rowsOf, List.getElem?_map, h]
    rfl
  rwa [Array.getElem?_toList] at e
theorem TSet.stays (T : TSet P w s.heap a L es ep t) : ¬ t.gaveWay = true := by
  rw [SetTable.gaveWay, mask_odd T.tbl.mok]
  decide
theorem stp_clear (t : SetTable) (h : Int) (c : Nat) : (stp t h c).dummy = none := by
  have go : ∀ (n : Nat) (p : SetTable.Probe), p.dummy = none → (nth t.mask p n).dummy = none := fun n => by
    induction n with
    | zero => exact fun _ z => z
    | succ n ih => exact fun p z => ih _ (by unfold adv; split <;> exact z)
  exact go c _ rfl
theorem stp_on (t : SetTable) (h : Int) (c d : Nat) : nth t.mask (stp t h c) d = stp t h (c + d) := (nth_add ..).symm
/-- the search from its c-th step on -/
theorem tset_seek (T : TSet P w s.heap a L es ep t) {x : Addr} {k : List Int} (hx : IsT P w s.heap k x) (hu : A.units < cLine) {z : Nat} (zb : z < 10 * SetTable.turns t.mask) (z0 : (stp t (thash P w k) z).j ∉ t.place.toList) (z1 : ∀ c, c < z → (stp t (thash P w k) c).j ∈ t.place.toList) {Q : SetFound → Shared → Prop} (yes : k ∈ L.map (·.2) → Q (.there none) s) (no : k ∉ L.map (·.2) → Q (.free (stp t (thash P w k) z).j false) s) :
    ∀ (f c : Nat) (sd : Option SetTable.Probe), sd.getD (t.probeStart (thash P w k)) = stp t (thash P w k) c → c ≤ z → z - c < f → (∀ (i : Nat) p, L[i]? = some p → p.2 = k → ∃ c', c ≤ c' ∧ c' < z ∧ t.place.toList[i]? = some (stp t (thash P w k) c').j) → wpAny (model P w) A (setSearchFrom a (.ref x) (thash P w k) true f sd) Q E s := by
  intro f
  induction f with
  | zero => intro c sd _ _ h; omega
  | succ f ih =>
    intro c sd hsd hc hf hre
    obtain ⟨o, ho, hex, hd⟩ := T.obj
    have key : ∀ (i : Nat) p, L[i]? = some p → (es[i]?.map (·.1)).getD 0 = thash P w p.2 := fun i p hp => by rw [T.at hp]; rfl
    have jc : ∀ d, (nth t.mask (stp t (thash P w k) c) d).j = (stp t (thash P w k) (c + d)).j := fun d => by rw [stp_on]
    have sp := go_spec t T.tbl.ris T.tbl.dm (fun i => (es[i]?.map (·.1)).getD 0) (thash P w k) (10 * SetTable.turns t.mask) (z - c) (stp t (thash P w k) c) (stp_clear t _ c) (by omega) (fun d hd' => by rw [jc]; exact z1 _ (by omega)) (by rw [jc, show c + (z - c) = z by omega]; exact z0)
    rw [setSearchFrom_succ]
    refine wpAny_bind (wpAny_setState_of ho hd T.fit ?_)
    dsimp only
    refine wp_if_neg T.stays ?_
    try refine wpAny_bind (wpAny_pure ?_)
    rcases sp with ⟨d, i, d1, d2, d3, d4, d5⟩ | ⟨d4, d5⟩
    · have met : t.probe (fun i => (es[i]?.map (·.1)).getD 0) (thash P w k) (sd.getD (t.probeStart (thash P w k))) = some (.candidate (stp t (thash P w k) (c + d)).j i (stp t (thash P w k) (c + (d + 1)))) := by
        rw [hsd, ← jc, ← stp_on]
        exact d5
      rw [met]
      dsimp only
      rw [jc] at d2
      have hi : i < L.length := by
        have := (List.getElem?_eq_some_iff.mp d2).1
        rw [Array.length_toList, T.plc] at this
        exact this
      obtain ⟨p, hp⟩ : ∃ p, L[i]? = some p := ⟨_, List.getElem?_eq_getElem hi⟩
      have pm := List.mem_of_getElem? hp
      have live : t.slot (stp t (thash P w k) (c + d)).j = .live i := slot_live T.tbl.ris d2
      have tail : wpAny (model P w) A (searchRest a (.ref x) (thash P w k) true f es t (stp t (thash P w k) (c + d)).j i (stp t (thash P w k) (c + (d + 1)))) Q E s := by
        unfold searchRest
        rw [T.at hp]
        dsimp only
        refine wpAny_bind (wpAny_holding (wpAny_eqBool_tuple hu (T.tups p pm) hx (wpAny_bind (wpAny_setState_of ho hd T.fit ?_))))
        dsimp only
        by_cases same : p.2 = k
        · exact wp_if_pos (by simp [same]) (wpAny_pure (yes (List.mem_map.mpr ⟨p, pm, same⟩)))
        · refine wp_if_neg (by simp [same]) ?_
          try refine wpAny_bind (wpAny_pure ?_)
          rw [sameMem]
          simp only [if_true, live, T.at hp]
          refine wpAny_bind (wpAny_isSame_ref_self (wpAny_bind (wpAny_pure ?_)))
          simp only [if_true]
          refine wp_if_neg (by simp [same]) (ih (c + (d + 1)) _ rfl (by omega) (by omega) fun i0 p0 h0 k0 => ?_)
          obtain ⟨c', q1, q2, q3⟩ := hre i0 p0 h0 k0
          refine ⟨c', ?_, q2, q3⟩
          rcases Nat.lt_trichotomy c' (c + d) with y | y | y
          · refine absurd ?_ (d4 (c' - c) i0 (by omega) (by rw [jc, show c + (c' - c) = c' by omega]; exact q3))
            show (es[i0]?.map (·.1)).getD 0 = _
            rw [key i0 p0 h0, k0]
          · rw [y] at q3
            have l0 := slot_live T.tbl.ris q3
            rw [live] at l0
            injection l0 with l0
            rw [← l0, hp] at h0
            cases h0
            exact absurd k0 same
          · omega
      by_cases ld : t.led = true
      · refine wp_if_neg (by simp [ld]) ?_
        try refine wpAny_bind (wpAny_pure ?_)
        exact tail
      · refine wp_if_pos (by simp [ld]) (wpAny_bind (seen_tup hx (fun y hy => ?_) ?_))
        · obtain ⟨e, he, rfl⟩ := List.mem_map.mp hy
          have he' : e ∈ es.toList := by
            have : e ∈ es ∧ e.1 = thash P w k := by simpa using he
            simpa using this.1
          rw [T.ent, rowsOf] at he'
          obtain ⟨p2, hp2, rfl⟩ := List.mem_map.mp he'
          exact ⟨p2.2, p2.1, rfl, T.tups p2 hp2⟩
        · refine wp_if_neg (by decide) ?_
          try refine wpAny_bind (wpAny_pure ?_)
          exact tail
    · have met : t.probe (fun i => (es[i]?.map (·.1)).getD 0) (thash P w k) (sd.getD (t.probeStart (thash P w k))) = some (.empty (stp t (thash P w k) z).j none) := by
        have e : (stp t (thash P w k) z).j = (nth t.mask (stp t (thash P w k) c) (z - c)).j := by rw [jc, show c + (z - c) = z by omega]
        rw [hsd, e]
        exact d5
      rw [met]
      refine wpAny_pure (no fun hm => ?_)
      obtain ⟨p0, m0, k0⟩ := List.mem_map.mp hm
      obtain ⟨i0, b0, e0⟩ := List.getElem_of_mem m0
      have h0 : L[i0]? = some p0 := by rw [List.getElem?_eq_getElem b0, e0]
      obtain ⟨c', q1, q2, q3⟩ := hre i0 p0 h0 k0
      refine absurd ?_ (d4 (c' - c) i0 (by omega) (by rw [jc, show c + (c' - c) = c' by omega]; exact q3))
      show (es[i0]?.map (·.1)).getD 0 = _
      rw [key i0 p0 h0, k0]
theorem tset_find (T : TSet P w s.heap a L es ep t) {x : Addr} {k : List Int} (hx : IsT P w s.heap k x) (hu : A.units < cLine) {Q : SetFound → Shared → Prop} (yes : k ∈ L.map (·.2) → Q (.there none) s)
    (no : ∀ z, k ∉ L.map (·.2) → way t.mask (thash P w k) z ∉ t.place.toList → (∀ c, c < z → way t.mask (thash P w k) c ∈ t.place.toList) → Q (.free (way t.mask (thash P w k) z) false) s) : wpAny (model P w) A (setSearch a (.ref x) (thash P w k) true) Q E s := by
  have sp := T.spare
  obtain ⟨z, zb, z0, z1⟩ := T.tbl.first (by rw [List.length_map]; omega) (thash P w k)
  have zs : z < 100000 := by
    have : SetTable.turns t.mask ≤ 142 := by
      unfold SetTable.turns
      rcases T.tbl.mok with e | e | e <;> rw [e] <;> decide
    omega
  unfold setSearch
  refine tset_seek T hx hu zb z0 z1 yes (fun n => no z n z0 z1) 100000 0 none rfl (Nat.zero_le _) (by omega) fun i p hp hk => ?_
  have hi : i < t.place.toList.length := by
    rw [Array.length_toList, T.plc]
    exact (List.getElem?_eq_some_iff.mp hp).1
  have hh : (L.map fun p => thash P w p.2)[i]? = some (thash P w k) := by rw [List.getElem?_map, hp, ← hk]; rfl
  obtain ⟨c, c1, c2⟩ := T.tbl.before z0 hh (List.getElem?_eq_getElem hi)
  exact ⟨c, Nat.zero_le _, c1, by rw [List.getElem?_eq_getElem hi]; exact congrArg some c2.symm⟩
/-- the table is laid anew, larger -/
theorem tset_relay {o : Obj} (ho : s.heap.get? a = some o) (hex : o.ExactSet) (hd : o.data = .set es ep t) (he : es.toList = rowsOf P w L) (hs : t.place.size = es.size) (hdm : t.dummies = #[]) (hm : es.size ≤ t.mask) (on : (L.map (·.2)).Nodup) (tu : ∀ p ∈ L, IsT P w s.heap p.2 p.1) (pl : t.plain = true) (ld : w.params.followText "set-order" = true ∨ t.led = true)
    {wd M : Nat} (hw : SetTable.sizeAbove wd = M + 1) (hM : MaskOk M) (hM2 : M ≤ 127) (sp : L.length * 5 < M * 3) {Q : Unit → Shared → Prop} (q : ∀ h' L' es' ep' t', Heap.SameBut a s.heap h' → TSet P w h' a L' es' ep' t' → L'.Perm L → Q () { s with heap := h' }) : wpAny (model P w) A (setRelay a wd) Q E s := by
  have hl := rowsOf_len he
  obtain ⟨t', od, e, pm, T, em, el, epl, edm⟩ := relaid_ok t (hs := es.map (·.1)) (wanted := wd) (M := M) (by rw [hw]; rfl) hM (by rw [Array.size_map, hl]; omega)
  rw [Array.size_map, hl] at pm
  obtain ⟨L2, r1, r2, r3⟩ := order_rows L es od he pm
  rw [← r3] at T
  have n2 : (od.filterMap (es[·]?)).size = L.length := by rw [rowsOf_len r1, r2.length_eq]
  rw [setRelay_eq]
  refine wpAny_bind (wpAny_setState_of ho hd (fits_of hs hdm hm) ?_)
  dsimp only
  refine wp_if_neg (by rw [hw, sizeLine_eq]; omega) ?_
  try refine wpAny_bind (wpAny_pure ?_)
  rw [e]
  dsimp only
  refine wpAny_bind (wp_if_neg (by rw [n2, hl]; simp) ?_)
  try refine wpAny_bind (wpAny_pure ?_)
  refine wpAny_pure ?_
  dsimp only
  refine wpAny_storeSet_of ho hd ?_ (by rw [n2, sizeLine_eq]; omega)
  have sb : Heap.SameBut a s.heap (s.heap.update a (Obj.putSet (od.filterMap (es[·]?)) t')) := Heap.SameBut.update ..
  exact q _ L2 _ (ep + 1) t' sb { obj := ⟨_, store_at ho hd, ⟨hex.1, hex.2.1, hex.2.2⟩, rfl⟩, ent := r1, tbl := T, one := (r2.map (·.2)).nodup_iff.mpr on, tups := fun p hp => isT_same (tu p (r2.mem_iff.mp hp)) ho hd sb, pln := by rw [epl]; exact pl, way' := by rw [el]; exact ld, spare := by rw [r2.length_eq, em]; exact sp } r2
/-- one more -/
theorem tset_add (T : TSet P w s.heap a L es ep t) {x : Addr} {k : List Int} (hx : IsT P w s.heap k x) (hu : A.units < cLine) (few : k ∉ L.map (·.2) → L.length < 76) {Q : Bool → Shared → Prop}
    (q : ∀ c h' L' es' ep' t', Heap.SameBut a s.heap h' → TSet P w h' a L' es' ep' t' → (k ∈ L.map (·.2) → L' = L) → (k ∉ L.map (·.2) → L'.Perm ((x, k) :: L)) → Q c { s with heap := h' }) : wpAny (model P w) A (setAddHashed a (.ref x) (thash P w k)) Q E s := by
  obtain ⟨o, ho, hex, hd⟩ := T.obj
  have sp := T.spare
  unfold setAddHashed
  refine wpAny_holding ?_
  rw [show (100000 : Nat) = 99999 + 1 from rfl, setAddHashedIn_succ]
  refine wpAny_bind (wpAny_setState_of ho hd T.fit ?_)
  dsimp only
  refine wp_if_neg (by simp [byScan, Value.scannable]) ?_
  try refine wpAny_bind (wpAny_pure ?_)
  refine wpAny_bind (tset_find T hx hu (fun m => ?_) fun z m z0 z1 => ?_)
  · exact wpAny_pure (q false s.heap L es ep t (Heap.SameBut.refl a s.heap) T (fun _ => rfl) fun n => absurd m n)
  · dsimp only
    refine wpAny_bind (wpAny_setState_of ho hd T.fit ?_)
    dsimp only
    have lt := few m
    obtain ⟨q1, q2, q3, q4, q5, q6, q7, q8, q9⟩ := T.tbl.put z0 z1
    have pl1 : (t.put (way t.mask (thash P w k) z)).1.plain = true := by rw [q6]; exact T.pln
    generalize eput : t.put (way t.mask (thash P w k) z) = tp at q1 q3 q4 q5 q6 q7 q8 q9 pl1 ⊢
    obtain ⟨t1, pz⟩ := tp
    dsimp only at q1 q3 q4 q5 q6 q7 q8 q9 pl1 ⊢
    subst q1
    first
      | (refine wpAny_bind ?_; refine wp_if_pos pl1 ?_; refine hashBy_tup hx ?_)
      | refine wp_if_pos pl1 (wpAny_bind (hashBy_tup hx ?_))
    simp only [if_true]
    generalize ebel : SetTable.below t.place (way t.mask (thash P w k) z) = j at q2 q3 ⊢
    have pm : (L.take j ++ (x, k) :: L.drop j).Perm ((x, k) :: L) := put_perm L j (x, k)
    have en1 : (SetTable.insertAt es j (thash P w k, Value.ref x)).toList = rowsOf P w (L.take j ++ (x, k) :: L.drop j) := by rw [SetTable.toList_insertAt, rows_put, T.ent]
    have hh : (L.take j ++ (x, k) :: L.drop j).map (fun p => thash P w p.2) = (L.map fun p => thash P w p.2).take j ++ thash P w k :: (L.map fun p => thash P w p.2).drop j := by simp only [List.map_append, List.map_cons, List.map_take, List.map_drop]
    rw [← hh] at q3
    have ll : (L.take j ++ (x, k) :: L.drop j).length = L.length + 1 := by rw [pm.length_eq, List.length_cons]
    have on1 : ((L.take j ++ (x, k) :: L.drop j).map (·.2)).Nodup := (pm.map (·.2)).nodup_iff.mpr (List.nodup_cons.mpr ⟨m, T.one⟩)
    have ez := rowsOf_len en1
    rw [ll] at ez
    generalize SetTable.insertAt es j (thash P w k, Value.ref x) = es1 at en1 ez ⊢
    generalize L.take j ++ (x, k) :: L.drop j = L1 at pm en1 q3 ll on1
    refine wpAny_bind (wpAny_storeSet_of ho hd ?_ (by rw [ez, sizeLine_eq]; omega))
    have sb : Heap.SameBut a s.heap (s.heap.update a (Obj.putSet es1 t1)) := Heap.SameBut.update ..
    have ho1 := store_at (es' := es1) (t' := t1) ho hd
    generalize s.heap.update a (Obj.putSet es1 t1) = h1 at sb ho1 ⊢
    have tu1 : ∀ p ∈ L1, IsT P w h1 p.2 p.1 := fun p hp => by
      rcases List.mem_cons.mp (pm.mem_iff.mp hp) with rfl | hp
      · exact isT_same hx ho hd sb
      · exact isT_same (T.tups p hp) ho hd sb
    have wy1 : w.params.followText "set-order" = true ∨ t1.led = true := by rw [q5]; exact T.way'
    have fl : t1.tooFull = true ↔ (L.length + 1) * 5 ≥ t1.mask * 3 := by
      unfold SetTable.tooFull
      rw [decide_eq_true_eq, q9, List.length_map]
    by_cases hf : t1.tooFull = true
    · have full := fl.mp hf
      first
        | (refine wpAny_bind ?_; refine wp_if_pos (by simp [hf]) ?_)
        | (refine wp_if_pos (by simp [hf]) ?_; refine wpAny_bind ?_)
      rw [T.len]
      have ps1 : t1.place.size = es1.size := by
        have := q3.sz
        rw [List.length_map, ll] at this
        rw [this, ez]
      have on : ∀ M, SetTable.sizeAbove (SetTable.grown (L.length + 1)) = M + 1 → MaskOk M → M ≤ 127 → (L.length + 1) * 5 < M * 3 → es1.size ≤ t1.mask → wpAny (model P w) A (setRelay a (SetTable.grown (L.length + 1))) (fun _ s' => wpAny (model P w) A (pure true) Q E s') E { s with heap := h1 } := fun M u1 u2 u3 u4 u5 => tset_relay (s := { s with heap := h1 }) ho1 ⟨hex.1, hex.2.1, hex.2.2⟩ rfl en1 ps1 q3.dm u5 on1 tu1 pl1 wy1 u1 u2 u3 (by rw [ll]; exact u4) fun h2 L2 es2 ep2 t2 sb2 T2 pm2 => wpAny_pure (q true h2 L2 es2 ep2 t2 (sb.trans sb2) T2 (fun n => absurd n m) fun _ => pm2.trans pm)
      rcases T.tbl.mok with e | e | e
      · have n4 : L.length = 4 := by rw [q4, e] at full; rw [e] at sp; omega
        exact on 31 (by rw [n4, size_20]) (.inr (.inl rfl)) (by decide) (by omega) (by rw [ez, q4, e]; omega)
      · have n18 : L.length = 18 := by rw [q4, e] at full; rw [e] at sp; omega
        exact on 127 (by rw [n18, size_76]) (.inr (.inr rfl)) (by decide) (by omega) (by rw [ez, q4, e]; omega)
      · rw [q4, e] at full; omega
    · first
        | refine wp_if_neg (by simp [hf]) ?_
        | (refine wpAny_bind ?_; refine wp_if_neg (by simp [hf]) ?_; refine wpAny_pure ?_)
      exact wpAny_pure (q true h1 L1 es1 (ep + 1) t1 sb { obj := ⟨_, ho1, ⟨hex.1, hex.2.1, hex.2.2⟩, rfl⟩, ent := en1, tbl := q3, one := on1, tups := tu1, pln := pl1, way' := wy1, spare := by rw [ll]; exact Nat.lt_of_not_ge fun z => hf (fl.mpr z) } (fun n => absurd n m) fun _ => pm)
end
end Fx
-- FsetC
namespace Fx
open PySem PySem.Spec PyProof.Rows L2
section
variable {P : Program} {w : World} {A : Around} {E : Value → Shared → Prop} {s : Shared}
theorem TSet.on {h h' : Heap} {a : Addr} {L : Rw} {es : Array (Int × Value)} {ep : Nat} {t : SetTable} (T : TSet P w h a L es ep t) (ha : ∀ o, h.get? a = some o → h'.get? a = some o) (ht : ∀ p ∈ L, IsT P w h' p.2 p.1) : TSet P w h' a L es ep t := by
  obtain ⟨o, ho, r⟩ := T.obj
  exact { obj := ⟨o, ha o ho, r⟩, ent := T.ent, tbl := T.tbl, one := T.one, tups := ht, pln := T.pln, way' := T.way', spare := T.spare }
theorem tset_new {h : Heap} {a : Addr} (ho : h.get? a = some (set00 w)) : TSet P w h a [] #[] 0 (.fresh 0 0 (!w.params.followText "set-order")) := by
  have r := setTR_fresh (P := P) (w := w) ho
  exact { obj := r.ob, ent := r.rows, tbl := r.tab, one := r.nd, tups := r.tup, pln := r.plain, way' := r.led, spare := r.room }
/-- the loop of set(..), over all that is walked -/
theorem tset_loop {I : Addr} {fp wr : List Addr} {G : Array GenState → Array GenState → Prop} {n : Nat} {Pv : Nat → Value → Prop} {St : Nat → Shared → Prop} {Rz : Result → Shared → Prop} (W : WalksS P w A.in1 I fp wr G n Pv St) (S : Addr) (hSf : S ∉ fp) (ks : Rw) (hn : n = ks.length) (hD : ∀ M : List (List Int), M.Nodup → (∀ x ∈ M, x ∈ ks.map (·.2)) → M.length ≤ 76)
    (hval : ∀ i v, Pv i v → ∃ p, ks[i]? = some p ∧ v = .ref p.1) (h0 : Heap) (hk : ∀ p ∈ ks, IsT P w h0 p.2 p.1) (hS0 : h0.get? S = none) (hw0 : ∀ c ∈ wr, h0.get? c = none) (hu : A.in1.units < cLine) :
    ∀ (d i : Nat) (s : Shared), n - i = d → i ≤ n → St i s → (∀ c o, h0.get? c = some o → s.heap.get? c = some o) → (∃ L es ep t, TSet P w s.heap S L es ep t ∧ Got ks i L) → (∀ s' L es ep t, Moved (S :: wr) G s s' → TSet P w s'.heap S L es ep t → Got ks n L → (∀ c o, h0.get? c = some o → s'.heap.get? c = some o) → Rz (.ok (.ret .none)) s') →
      codeAny (model P w) A (.builtin "set.update.loop" ⟨[.ref S, .ref I], []⟩) Rz s := by
  have nW : S ∉ wr := fun z => hSf (W.sub _ z)
  have more : ∀ c ∈ wr, c ∈ S :: wr := fun c hc => List.mem_cons_of_mem _ hc
  have kept : ∀ {u u' : Shared}, Moved wr G u u' → (∀ c o, h0.get? c = some o → u.heap.get? c = some o) → ∀ c o, h0.get? c = some o → u'.heap.get? c = some o := fun mv kp c o e => mv.heap c o (fun hc => by rw [hw0 c hc] at e; cases e) (kp c o e)
  intro d
  induction d with
  | zero =>
    intro i s hd hi st kp ⟨L, es, ep, t, T, g⟩ fin
    have e : i = n := by omega
    subst e
    refine codeAny_builtin F.entry_set_update_loop ?_
    rw [Around.under_plainId F.plain_set_update_loop _]
    show wpAny _ A.in1 (pyNext (.ref I) >>= _) _ _ s
    refine wpAny_bind (W.done s _ _ st fun s' mv => ?_)
    have kp' := kept mv kp
    exact wpAny_pure (fin s' L es ep t (mv.mono more) (T.on (fun o e => mv.heap S o nW e) fun p hp => isT_keep (hk p (List.mem_of_mem_take (g.sub p hp))) kp') g kp')
  | succ d ih =>
    intro i s hd hi st kp ⟨L, es, ep, t, T, g⟩ fin
    have lt : i < n := by omega
    refine codeAny_builtin F.entry_set_update_loop ?_
    rw [Around.under_plainId F.plain_set_update_loop _]
    show wpAny _ A.in1 (pyNext (.ref I) >>= _) _ _ s
    refine wpAny_bind (W.item i s _ _ lt st fun v s' hP st' mv => ?_)
    obtain ⟨p, hp, rfl⟩ := hval i v hP
    have kp' := kept mv kp
    have sub : ∀ q ∈ L, q ∈ ks := fun q hq => List.mem_of_mem_take (g.sub q hq)
    have T' : TSet P w s'.heap S L es ep t := T.on (fun o e => mv.heap S o nW e) fun q hq => isT_keep (hk q (sub q hq)) kp'
    have px : IsT P w s'.heap p.2 p.1 := isT_keep (hk p (List.mem_of_getElem? hp)) kp'
    show wpAny _ A.in1 (holding [Value.ref p.1] (setAdd S (.ref p.1)) >>= _) _ _ s'
    refine wpAny_bind (wpAny_holding ?_)
    unfold setAdd
    refine wpAny_holding (wpAny_bind (wpAny_pyHash_tuple hu px ?_))
    refine tset_add (s := { s' with toks := s'.toks + (p.2.length + 1) }) T' px hu (fun nm => ?_) fun c h' L' es' ep' t' sb T2 c1 c2 => ?_
    · have := hD (p.2 :: L.map (·.2)) (List.nodup_cons.mpr ⟨nm, T.one⟩) (fun x hx => by
        rcases List.mem_cons.mp hx with rfl | hx
        · exact List.mem_map.mpr ⟨p, List.mem_of_getElem? hp, rfl⟩
        · obtain ⟨q, hq, rfl⟩ := List.mem_map.mp hx
          exact List.mem_map.mpr ⟨q, sub q hq, rfl⟩)
      rw [List.length_cons, List.length_map] at this
      omega
    · have g' : Got ks (i + 1) L' := by
        by_cases m : p.2 ∈ L.map (·.2)
        · rw [c1 m]; exact g.same hp m
        · exact g.more hp (c2 m)
      have kp2 : ∀ c o, h0.get? c = some o → h'.get? c = some o := fun c o e => (sb.2 c (fun z => by rw [z, hS0] at e; cases e)).trans (kp' c o e)
      refine wpAny_pure ⟨plainId_quiet F.plain_set_update_loop _, ih (i + 1) _ (by omega) lt (W.frame _ s' _ _ st' (Nat.le_add_right _ _) fun c hc o e => ?_) kp2 ⟨L', es', ep', t', T2, g'⟩ fun s'' L2 es2 ep2 t2 mv2 T3 g3 kp3 => ?_⟩
      · rw [sb.2 c (fun z : c = S => hSf (z ▸ hc))]; exact e
      · refine fin s'' L2 es2 ep2 t2 (Moved.trans W.gtrans ((mv.mono more).then_heap (Nat.le_add_right _ _) fun c o hc e => ?_) mv2) T3 g3 kp3
        rw [sb.2 c (fun z : c = S => hc (z ▸ List.mem_cons_self))]; exact e
/-- set(xs), xs a list of tuples of ints -/
theorem set_of_tups {l : Addr} {items : Array Value} (ks : Rw) {Q : Value → Shared → Prop} (hh : A.handled = none) (hl : s.heap.IsList l items) (hit : items.toList = ks.map fun p => Value.ref p.1) (hk : ∀ p ∈ ks, IsT P w s.heap p.2 p.1) (hD : ∀ M : List (List Int), M.Nodup → (∀ x ∈ M, x ∈ ks.map (·.2)) → M.length ≤ 76) (hu : A.units + 3 < cLine)
    (h : ∀ (h' : Heap) (tk : Nat) L es ep t, TSet P w h' s.heap.objs.size L es ep t → Got ks ks.length L → (∀ b o, s.heap.get? b = some o → h'.get? b = some o) → Q (.ref s.heap.objs.size) { s with heap := h', toks := tk }) :
    wpAny (model P w) A (call (.type "set") [.ref l]) Q E s := by
  have hisz : items.size = ks.length := by
    rw [← Array.length_toList, hit, List.length_map]
  obtain ⟨c, tl, hmro⟩ := F.called_set.mro
  have hmade := F.called_set.made; have hsub := F.called_set.sub
  refine wpAny_call (codeAny_of_tree ?_)
  show wpAny _ _ (callAny (.type "set") _) _ _ _
  refine wpAny_pure ⟨Code.quiet_builtin _ (by decide +kernel), codeAny_builtin F.entry_type_call ?_⟩
  rw [Around.under_plain (weight_type_call_type "set" [.ref l] []) rfl]
  have h1 := F.called_set.notType; have h2 := F.called_set.canCreate; have hct := F.typeCall_set_1 (.ref l)
  repeat (any_goals (first | assumption | wp_step))
  refine codeAny_mono (code_set_led1 (.ref l) (E := E) (Q₁ := fun obj s₁ => obj = .ref s.heap.objs.size ∧ s₁ = { s with heap := s.heap.push (set00 w) }) ⟨rfl, rfl⟩) fun r s₁ hr => ?_
  cases r with
  | error e => exact hr
  | ok fl =>
    cases fl with
    | ret obj =>
      obtain ⟨rfl, rfl⟩ := hr
      have hS : (s.heap.push (set00 w)).get? s.heap.objs.size = some (set00 w) := Heap.get?_push_size _ rfl
      have hT : Shared.TypeIs { s with heap := s.heap.push (set00 w) } (.ref s.heap.objs.size) "set" := ⟨_, hS, rfl⟩
      have hli := F.called_set.init.lookup; have hbi := F.called_set.init.bind (.ref s.heap.objs.size)
      repeat (any_goals (first | assumption | wp_step))
      refine codeAny_mono (codeAny_call_builtin (R := wants (fun r s₂ => r = .none ∧ ∃ h' tk L es ep t, s₂ = { s with heap := h', toks := tk } ∧ TSet P w h' s.heap.objs.size L es ep t ∧ Got ks ks.length L ∧ (∀ b o, s.heap.get? b = some o → h'.get? b = some o)) E) F.called_set.init.plain F.entry_set_init (check_set_init_1 hT ?_)) fun r₂ s₂ hr₂ => ?_
      · obtain ⟨ol, hol, hcl, nl, hdl⟩ := hl
        obtain ⟨ocls, odict, odata, oslots⟩ := ol
        simp only at hcl hdl
        subst hcl; subst hdl
        have hol' : (s.heap.push (set00 w)).get? l = some { cls := .type "list", dict := odict, data := .seq items nl, slots := oslots } := Heap.get?_push_of_some _ hol
        have hsls := F.sub_list_set
        have hslf := F.sub_list_frozenset
        have hne : (Value.type "list" == Value.type "dict") = false := by decide
        have hl1 : (s.heap.push (set00 w)).IsList l items := ⟨_, hol', rfl, nl, rfl⟩
        unfold Builtin.«set.__init__» noKeywords Builtin.Frozenset.updateFrom
        generalize hPI : pyIter = PI
        wp_walk
        subst hPI
        refine wpAny_pyIter_list hl1 ?_
        refine wpAny_bind (wpAny_runValue ?_)
        have hlS : l < s.heap.objs.size := Heap.lt_size hol
        have hh3 : A.in1.in1.in1.handled = none := by simp [hh]
        have hneI : l ≠ (s.heap.push (set00 w)).objs.size := by rw [Heap.size_push]; exact Nat.ne_of_lt (Nat.lt_succ_of_lt hlS)
        have hSf : s.heap.objs.size ∉ [(s.heap.push (set00 w)).objs.size, l] := by
          rw [Heap.size_push]; simp only [List.mem_cons, List.mem_singleton, List.not_mem_nil, or_false, not_or]; exact ⟨Nat.ne_of_lt (Nat.lt_succ_self _), Nat.ne_of_gt hlS⟩
        have hval : ∀ (i : Nat) (v : Value), items[i]? = some v → ∃ p, ks[i]? = some p ∧ v = .ref p.1 := fun i v hv => by
          have q : (ks.map fun p => Value.ref p.1)[i]? = some v := by rw [← hit, Array.getElem?_toList]; exact hv
          rw [List.getElem?_map] at q
          obtain ⟨p, e1, e2⟩ := Option.map_eq_some_iff.mp q
          exact ⟨p, e1, e2.symm⟩
        have past : ∀ b, s.heap.objs.size ≤ b → s.heap.get? b = none := fun b hb => by
          cases q : s.heap.get? b with
          | none => rfl
          | some o => exact absurd (Heap.lt_size q) (Nat.not_lt.mpr hb)
        refine tset_loop ((Walks.list hh3 _ l hneI items).toS) s.heap.objs.size hSf ks hisz hD hval s.heap hk (past _ (Nat.le_refl _)) (fun b hb => past b (by rw [List.mem_singleton.mp hb, Heap.size_push]; exact Nat.le_succ _)) hu (items.size - 0) 0 _ (by omega) (Nat.zero_le _) ⟨⟨_, Heap.get?_push_size _ rfl, rfl, rfl⟩, (hl1.push _)⟩ (fun b o e => Heap.get?_push_of_some _ (Heap.get?_push_of_some _ e)) ?hS0 ?hR
        case hS0 => exact ⟨[], #[], 0, _, tset_new (Heap.get?_push_of_some _ hS), Got.zero ks⟩
        case hR =>
          intro s' L es ep t hm T g kp
          obtain ⟨h', g2, d', tk', os'⟩ := s'
          have eg : g2 = s.gens := hm.gens
          have ed : d' = s.drawn := hm.drawn
          have eo : os' = s.os := hm.os
          subst eg; subst ed; subst eo
          show wpAny _ _ _ _ _ _
          refine wpAny_pure ?_
          show wpAny _ _ (ret Value.none) _ _ _
          rw [hisz] at g
          exact wpAny_pure ⟨rfl, h', tk', L, es, ep, t, rfl, T, g, kp⟩
      · cases r₂ with
        | error e => exact hr₂
        | ok fl₂ =>
          cases fl₂ with
          | ret r =>
            obtain ⟨rfl, h', tk, L, es, ep, t, rfl, T, g, hk'⟩ := hr₂
            repeat (any_goals (first | assumption | wp_step))
            exact h _ _ _ _ _ _ T g hk'
          | _ => exact hr₂.elim
    | _ => exact hr.elim
end
end Fx
-- Fset2
namespace Fx
open PySem PySem.Spec PyProof.Rows L2
/-! ### sorted(set(xs)): ints, tuples of ints -/
section
variable {α : Type} [DecidableEq α]
def dd : List α → List α
  | [] => []
  | a :: r => if a ∈ r then dd r else a :: dd r
theorem mem_dd {x : α} : ∀ {xs : List α}, x ∈ dd xs ↔ x ∈ xs
  | [] => Iff.rfl
  | a :: r => by
    unfold dd
    by_cases h : a ∈ r
    · rw [if_pos h, mem_dd, List.mem_cons]
      exact ⟨.inr, fun z => z.elim (fun e => by rw [e]; exact h) id⟩
    · rw [if_neg h, List.mem_cons, List.mem_cons, mem_dd]
theorem nodup_dd : ∀ xs : List α, (dd xs).Nodup
  | [] => List.nodup_nil
  | a :: r => by
    unfold dd
    by_cases h : a ∈ r
    · rw [if_pos h]; exact nodup_dd r
    · rw [if_neg h]; exact List.nodup_cons.mpr ⟨fun z => h (mem_dd.mp z), nodup_dd r⟩
/-- insertion -/
def ins (le : α → α → Bool) (a : α) : List α → List α
  | [] => [a]
  | b :: r => if le a b = true then a :: b :: r else b :: ins le a r
def isort (le : α → α → Bool) : List α → List α
  | [] => []
  | a :: r => ins le a (isort le r)
omit [DecidableEq α] in
theorem ins_perm (le : α → α → Bool) (a : α) : ∀ xs : List α, (ins le a xs).Perm (a :: xs)
  | [] => List.Perm.refl _
  | b :: r => by
    unfold ins
    split
    · exact List.Perm.refl _
    · exact ((ins_perm le a r).cons b).trans (List.Perm.swap a b r)
omit [DecidableEq α] in
theorem isort_perm (le : α → α → Bool) : ∀ xs : List α, (isort le xs).Perm xs
  | [] => List.Perm.refl _
  | a :: r => (ins_perm le a _).trans ((isort_perm le r).cons a)
omit [DecidableEq α] in
theorem ins_pw {le : α → α → Bool} (tr : ∀ a b c, le a b = true → le b c = true → le a c = true) (tot : ∀ a b, (le a b || le b a) = true) (a : α) : ∀ {xs : List α}, xs.Pairwise (fun x y => le x y = true) → (ins le a xs).Pairwise fun x y => le x y = true
  | [], _ => List.pairwise_singleton _ _
  | b :: r, h => by
    obtain ⟨h1, h2⟩ := List.pairwise_cons.mp h
    unfold ins
    split
    · rename_i e
      refine List.pairwise_cons.mpr ⟨fun x hx => ?_, h⟩
      rcases List.mem_cons.mp hx with rfl | hx
      · exact e
      · exact tr _ _ _ e (h1 x hx)
    · rename_i e
      refine List.pairwise_cons.mpr ⟨fun x hx => ?_, ins_pw tr tot a h2⟩
      rcases List.mem_cons.mp ((ins_perm le a r).mem_iff.mp hx) with rfl | hx
      · have q := tot x b
        rw [Bool.or_eq_true] at q
        exact q.resolve_left e
      · exact h1 x hx
omit [DecidableEq α] in
theorem isort_pw {le : α → α → Bool} (tr : ∀ a b c, le a b = true → le b c = true → le a c = true) (tot : ∀ a b, (le a b || le b a) = true) : ∀ xs : List α, (isort le xs).Pairwise fun x y => le x y = true
  | [] => List.Pairwise.nil
  | a :: r => ins_pw tr tot a (isort_pw tr tot r)
/-- two sorts of the same members -/
theorem sort_same {le : α → α → Bool} (tr : ∀ a b c, le a b = true → le b c = true → le a c = true) (tot : ∀ a b, (le a b || le b a) = true) (anti : ∀ a b, le a b = true → le b a = true → a = b) {xs ys : List α} (nd : xs.Nodup) (hm : ∀ x, x ∈ xs ↔ x ∈ ys) : xs.mergeSort le = isort le (dd ys) := by
  have p : xs.Perm (dd ys) := (List.perm_ext_iff_of_nodup nd (nodup_dd ys)).mpr fun x => by rw [mem_dd]; exact hm x
  refine List.Perm.eq_of_pairwise (le := fun a b => le a b = true) (fun a b _ _ h1 h2 => anti a b h1 h2) (List.pairwise_mergeSort tr tot xs) (isort_pw tr tot _) ?_
  exact (List.mergeSort_perm xs le).trans (p.trans (isort_perm le _).symm)
end
def leI (a b : Int) : Bool := decide (a ≤ b)
def leR : List Int → List Int → Bool
  | [], _ => true
  | _ :: _, [] => false
  | x :: xs, y :: ys => if x = y then leR xs ys else decide (x < y)
theorem leR_le : ∀ xs ys : List Int, leR xs ys = decide (xs ≤ ys)
  | [], ys => by simp [leR]
  | x :: xs, [] => by simp [leR]
  | x :: xs, y :: ys => by
    unfold leR
    rw [leR_le xs ys]
    by_cases h : x = y
    · rw [if_pos h]; subst h
      simp [List.cons_le_cons_iff]
    · rw [if_neg h]
      simp [List.cons_le_cons_iff, h]
def sortI (ns : List Int) : List Int := isort leI (dd ns)
def sortR (rs : List (List Int)) : List (List Int) := isort leR (dd rs)
theorem leI_tr (a b c : Int) (h1 : leI a b = true) (h2 : leI b c = true) : leI a c = true := by unfold leI at *; simp at *; omega
theorem leI_tot (a b : Int) : (leI a b || leI b a) = true := by unfold leI; simp; omega
theorem leI_anti (a b : Int) (h1 : leI a b = true) (h2 : leI b a = true) : a = b := by unfold leI at *; simp at *; omega
theorem leR_tr (a b c : List Int) (h1 : leR a b = true) (h2 : leR b c = true) : leR a c = true := by
  rw [leR_le, decide_eq_true_eq] at *
  exact List.le_trans h1 h2
theorem leR_tot (a b : List Int) : (leR a b || leR b a) = true := by
  rw [leR_le, leR_le, Bool.or_eq_true, decide_eq_true_eq, decide_eq_true_eq]
  exact List.le_total a b
theorem leR_anti (a b : List Int) (h1 : leR a b = true) (h2 : leR b a = true) : a = b := by
  rw [leR_le, decide_eq_true_eq] at *
  exact List.le_antisymm h1 h2
/-! the model's sets -/
def encI : Value → PyData
  | .int n _ => .int n
  | _ => .int 0
def numI : Value → Int
  | .int n _ => n
  | _ => 0
theorem encI_num (v : Value) : encI v = .int (numI v) := by cases v <;> rfl
theorem leI_enc (u v : Value) : PySem.W.dataLe false encI u v = leI (numI u) (numI v) := by
  have e : encI = fun v => .int (numI v) := funext encI_num
  rw [e, PySem.W.dataLe_int numI]
  rfl
section
variable {X : Cx} {pins : List (Addr × Obj)} {σ : L2.St} {H : Hp} {s : Shared}
theorem vals_nums : ∀ {out : List Value}, (∀ v ∈ out, ∃ k t, v = Value.int k t) → Vals ((out.map numI).map V.int) out
  | [], _ => .nil
  | v :: out, h => by
    obtain ⟨k, t, rfl⟩ := h v List.mem_cons_self
    exact .cons ⟨t, rfl⟩ (vals_nums fun u hu => h u (List.mem_cons_of_mem _ hu))
theorem sorted_setI {l : Addr} {ns : List Int} {Q : VK} (hc : X.calm = true) (hu : X.A.units + 64 < cLine) (I : Inv X pins σ H s) (hq : SqL X.K H l (ns.map V.int)) (hn : ns.length ≤ 4000) (q : ∀ p, H p = none → Q (.ref p) (upd H p (.lst ((sortI ns).map V.int)))) :
    wpAny (model X.prog X.w) X.A (call (.type "set") [.ref l]) (fun v s1 => wpAny (model X.prog X.w) X.A (call (.builtin "sorted") [v]) (EP X pins σ Q) X.xe s1) X.xe s := by
  obtain ⟨its, r, pl, hz⟩ := I.list hq
  refine set_of_ints ns (I.ok.hd hc) pl.isList (by simpa using r.ints) (by unfold scanBound; omega) fun h' tk c hS hcn hk => ?_
  have I1 : Inv X pins σ H { s with heap := h', toks := tk } := I.kept hk
  obtain ⟨o, es, ep, t, ho, hex, hd, g, nd, hm, hb, hf, hn', hr, hl⟩ := hS
  have good : ∀ v ∈ es.toList.map (·.2), ∃ k t, v = Value.int k t := fun v hv => by
    obtain ⟨e, he, rfl⟩ := List.mem_map.mp hv
    obtain ⟨k, tk, h1, _⟩ := g e he
    exact ⟨k, tk, h1⟩
  refine sorted_of_set (enc := encI) (I.ok.hd hc) ⟨o, ho, hex.1, hd⟩ hf hb hr hl (fun v hv => ?_) (fun v v' => ?_) (.inr fun v => ?_) (fun v => ?_) fun s' p vs out cc k2 g2 o2 hp hg pm eo => ?_
  · obtain ⟨k, t, rfl⟩ := good v hv
    exact ⟨[], .int k t⟩
  · rw [encI_num, encI_num]; simp [PySem.W.alike]
  · rw [encI_num]; exact ⟨fun z => (nomatch z), fun xs z => (nomatch z)⟩
  · rw [encI_num]; simp [PyData.depth]; omega
  · have gv : ∀ v ∈ vs, ∃ k t, v = Value.int k t := fun v hv => good v (pm.mem_iff.mp hv)
    have go : ∀ v ∈ out, ∃ k t, v = Value.int k t := fun v hv => by rw [eo] at hv; exact gv v (List.mem_mergeSort.mp hv)
    have ek : (es.toList.map (·.2)).map numI = es.toList.map L2.keyOf := by
      rw [List.map_map]
      refine List.map_congr_left fun e he => ?_
      obtain ⟨k, tk, h1, _⟩ := g e he
      show numI e.2 = L2.keyOf e
      unfold L2.keyOf
      rw [h1]
      rfl
    have en : out.map numI = sortI ns := by
      rw [eo, PySem.W.sort_maps numI (fun a _ b _ => leI_enc a b)]
      have pn : (vs.map numI).Perm (es.toList.map L2.keyOf) := by rw [← ek]; exact pm.map numI
      refine sort_same leI_tr leI_tot leI_anti (pn.nodup_iff.mpr nd) fun x => ?_
      rw [pn.mem_iff, ← hm x, decide_eq_true_eq]
    have hn : H p = none := I1.hok.fresh hp
    have vo := vals_nums go
    rw [en] at vo
    have hlen : ((sortI ns).map V.int).length ≤ sizeLine := by rw [vo.length, eo, List.length_mergeSort, pm.length_eq, List.length_map, Array.length_toList, sizeLine_eq]; unfold scanBound at hb; omega
    have J : Inv X pins σ (upd H p (.lst ((sortI ns).map V.int))) { ({ s with heap := h', toks := tk } : Shared) with heap := s'.heap, gens := s'.gens, drawn := s'.drawn, toks := s'.toks } :=
      I1.call (ch := []) (Un.laid k2 hp hn) (I1.hok.laid k2 hp ⟨hlen, out, cc, vo, hg⟩) (by rw [g2]; exact I1.bare) (fun _ z => nomatch z)
    have e : s' = { s with heap := s'.heap, gens := s'.gens, drawn := s'.drawn, toks := s'.toks } := by
      cases s'; cases s; cases o2; rfl
    rw [e]
    exact ⟨.ref p, _, J, rfl, q p hn⟩
/-! tuples -/
def rowA (L : List (Addr × List Int)) (a : Addr) : List Int := match L with
  | [] => [0]
  | p :: r => if p.1 = a then p.2 else rowA r a
def tupR : List Int → PyData
  | [] => .tuple [.int 0]
  | x :: r => .tuple ((x :: r).map .int)
def rowV (L : List (Addr × List Int)) : Value → List Int
  | .ref a => rowA L a
  | _ => [0]
def encT (L : List (Addr × List Int)) (v : Value) : PyData := tupR (rowV L v)
theorem rowA_ne {L : List (Addr × List Int)} (h : ∀ p ∈ L, p.2 ≠ []) (a : Addr) : rowA L a ≠ [] := by
  induction L with
  | nil => exact fun z => nomatch z
  | cons p r ih =>
    unfold rowA
    split
    · exact h p List.mem_cons_self
    · exact ih fun q hq => h q (List.mem_cons_of_mem _ hq)
theorem rowV_ne {L : List (Addr × List Int)} (h : ∀ p ∈ L, p.2 ≠ []) (v : Value) : rowV L v ≠ [] := by
  cases v <;> first | exact rowA_ne h _ | exact fun z => nomatch z
theorem tupR_ne {r : List Int} (h : r ≠ []) : tupR r = .tuple (r.map .int) := by
  cases r with
  | nil => exact absurd rfl h
  | cons _ _ => rfl
theorem rowA_mem {L : List (Addr × List Int)} (one : ∀ q ∈ L, ∀ r ∈ L, q.1 = r.1 → q = r) {p : Addr × List Int} (hp : p ∈ L) : rowA L p.1 = p.2 := by
  induction L with
  | nil => cases hp
  | cons q r ih =>
    unfold rowA
    split
    · rename_i e
      rw [one q List.mem_cons_self p hp e]
    · rename_i e
      rcases List.mem_cons.mp hp with rfl | hp
      · exact absurd rfl e
      · exact ih (fun a ha b hb => one a (List.mem_cons_of_mem _ ha) b (List.mem_cons_of_mem _ hb)) hp
theorem leT_enc {L : List (Addr × List Int)} (h : ∀ p ∈ L, p.2 ≠ []) (u v : Value) : PySem.W.dataLe false (encT L) u v = leR (rowV L u) (rowV L v) := by
  show (!PySem.W.dataLt (encT L v) (encT L u)) = _
  unfold encT
  rw [tupR_ne (rowV_ne h u), tupR_ne (rowV_ne h v), PySem.W.dataLt_tuple, leR_le]
  show (!PySem.W.rowLt ((rowV L v).map .int) ((rowV L u).map .int)) = _
  rw [PySem.W.dataLt_ints]
  by_cases q : rowV L v < rowV L u
  · have h' : ¬ rowV L u ≤ rowV L v := fun r => List.not_lt.mpr r q
    simp [q, h']
  · have h' : rowV L u ≤ rowV L v := List.not_lt.mp q
    simp [q, h']
theorem intKind_val {n : Int} {v : Value} (h : (PySem.intKind X.prog X.w).is n v = true) : ∃ t, v = Value.int n t := Value.isInt_shape h
theorem reads_ints {h : Heap} : ∀ {k : List Int} {us : List Value}, ItemsAre (intKind X.prog X.w) k us → ∃ as, ReadsAll h us (k.map PyData.int) as
  | [], _, .nil => ⟨[], .nil⟩
  | n :: k, _, .cons r t => by
    obtain ⟨as, q⟩ := reads_ints (h := h) t
    exact ⟨_, .cons ((let ⟨tt, ee⟩ := intKind_val r; by rw [ee]; exact .int n tt)) q⟩
theorem sorted_setT' {l : Addr} {ks : List (Addr × List Int)} {Q : VK} (hc : X.calm = true) (hu : X.A.units + 64 < cLine) (I : Inv X pins σ H s) (hq : SqL X.K H l (ks.map fun p => V.ref p.1)) (hk : ∀ p ∈ ks, SqT X.K H p.1 (p.2.map V.int)) (hne : ∀ p ∈ ks, p.2 ≠ []) (hn : ks.length ≤ 4000) (hdd : (dd (ks.map (·.2))).length ≤ 76)
    (q : ∀ p (L : List (Addr × List Int)), H p = none → (∀ x ∈ L, x ∈ ks) → L.map (·.2) = sortR (ks.map (·.2)) → Q (.ref p) (upd H p (.lst (L.map fun x => V.ref x.1)))) :
    wpAny (model X.prog X.w) X.A (call (.type "set") [.ref l]) (fun v s1 => wpAny (model X.prog X.w) X.A (call (.builtin "sorted") [v]) (EP X pins σ Q) X.xe s1) X.xe s := by
  obtain ⟨its, r, pl, hz⟩ := I.list hq
  refine set_of_tups (P := X.prog) (w := X.w) ks (I.ok.hd hc) pl.isList (by simpa using refs_of_vals r) (fun p hp => I.isT (hk p hp)) (fun M nd sub => Nat.le_trans (nd_len nd fun x hx => mem_dd.mpr (sub x hx)) hdd) (by omega) fun h' tk L es ep t R g kp => ?_
  have I1 : Inv X pins σ H { s with heap := h', toks := tk } := I.kept kp
  obtain ⟨o, ho, hex, hd⟩ := R.obj
  have hsz := TSet.len (s := { s with heap := h', toks := tk }) R
  have hfew : L.length < 77 := by
    have := R.spare
    rcases R.tbl.mok with e | e | e <;> omega
  have hes : es.toList.map (·.2) = L.map fun q => Value.ref q.1 := by
    rw [R.ent]
    unfold rowsOf
    rw [List.map_map] <;> rfl
  have one : ∀ q ∈ L, ∀ r ∈ L, q.1 = r.1 → q = r := fun q hq r hr e => by
    have a1 := R.tups q hq
    have a2 := R.tups r hr
    rw [e] at a1
    exact Prod.ext e (a1.inj a2)
  have sub : ∀ x ∈ L, x ∈ ks := fun x hx => List.mem_of_mem_take (g.sub x hx)
  have ne : ∀ p ∈ L, p.2 ≠ [] := fun p hp => hne p (sub p hp)
  refine sorted_of_set (enc := encT L) (I.ok.hd hc) ⟨o, ho, hex.1, hd⟩ (TSet.fit (s := { s with heap := h', toks := tk }) R) (by rw [hsz]; unfold scanBound; omega) R.tbl.ris R.way' (fun v hv => ?_) (fun v v' => ?_) (.inl fun v => ?_) (fun v => ?_) fun s' p vs out cc k2 g2 o2 hp hg pm eo => ?_
  · rw [hes] at hv
    obtain ⟨x, hx, rfl⟩ := List.mem_map.mp hv
    obtain ⟨ob, items, n, h1, h2, h3, h4⟩ := R.tups x hx
    obtain ⟨as, rd⟩ := reads_ints (X := X) (h := h') h4
    refine ⟨as, ?_⟩
    show Reads h' (.ref x.1) (tupR (rowA L x.1)) as
    rw [rowA_mem one hx, tupR_ne (ne x hx)]
    exact .tuple h1 h2 h3 rd
  · unfold encT
    rw [tupR_ne (rowV_ne ne v), tupR_ne (rowV_ne ne v')]
    simp only [PySem.W.alike]
    exact PySem.W.alike_ints _ _
  · unfold encT
    cases e : rowV L v with
    | nil => exact absurd e (rowV_ne ne v)
    | cons x r => exact ⟨.int x, r.map .int, rfl⟩
  · unfold encT
    rw [tupR_ne (rowV_ne ne v), PyData.depth, PySem.W.depth_ints]
    omega
  · have mv : ∀ v ∈ vs, ∃ x ∈ L, v = Value.ref x.1 := fun v hv => by
      have := pm.mem_iff.mp hv
      rw [hes] at this
      obtain ⟨x, hx, rfl⟩ := List.mem_map.mp this
      exact ⟨x, hx, rfl⟩
    have mo : ∀ v ∈ out, ∃ x ∈ L, v = Value.ref x.1 := fun v hv => by rw [eo] at hv; exact mv v (List.mem_mergeSort.mp hv)
    have back : ∀ us : List Value, (∀ v ∈ us, ∃ x ∈ L, v = Value.ref x.1) → ∃ L1 : List (Addr × List Int), us = L1.map (fun x => Value.ref x.1) ∧ (∀ x ∈ L1, x ∈ L) ∧ L1.map (·.2) = us.map (rowV L) := by
      intro us
      induction us with
      | nil => exact fun _ => ⟨[], rfl, fun x hx => (nomatch hx), rfl⟩
      | cons v us ih =>
        intro hv
        obtain ⟨x, hx, e⟩ := hv v List.mem_cons_self
        obtain ⟨L1, e1, hs, e2⟩ := ih fun u hu => hv u (List.mem_cons_of_mem _ hu)
        refine ⟨x :: L1, by rw [List.map_cons, e, e1], fun y hy => ?_, ?_⟩
        · rcases List.mem_cons.mp hy with z | z
          · rw [z]; exact hx
          · exact hs y z
        · rw [List.map_cons, List.map_cons, e2, e]
          show _ :: _ = rowA L x.1 :: _
          rw [rowA_mem one hx]
    obtain ⟨L1, e1, hs1, e2⟩ := back out mo
    have ev : (es.toList.map (·.2)).map (rowV L) = L.map (·.2) := by
      rw [hes, List.map_map]
      refine List.map_congr_left fun x hx => ?_
      exact rowA_mem one hx
    have pn : (vs.map (rowV L)).Perm (L.map (·.2)) := by rw [← ev]; exact pm.map _
    have en : L1.map (·.2) = sortR (ks.map (·.2)) := by
      rw [e2, eo, PySem.W.sort_maps (rowV L) (fun a _ b _ => leT_enc ne a b)]
      refine sort_same leR_tr leR_tot leR_anti (pn.nodup_iff.mpr R.one) fun x => ?_
      rw [pn.mem_iff]
      constructor
      · intro hx
        obtain ⟨y, hy, rfl⟩ := List.mem_map.mp hx
        exact List.mem_map.mpr ⟨y, sub y hy, rfl⟩
      · intro hx
        obtain ⟨y, hy, rfl⟩ := List.mem_map.mp hx
        exact g.all y (by rw [List.take_length]; exact hy)
    have hnp : H p = none := I1.hok.fresh hp
    have vo : Vals (L1.map fun x => V.ref x.1) out := by
      rw [e1]
      exact vals_of_refs L1
    have hlen : (L1.map fun x => V.ref x.1).length ≤ sizeLine := by
      have z : out.length = L.length := by rw [eo, List.length_mergeSort, pm.length_eq, hes, List.length_map]
      rw [vo.length, z, sizeLine_eq]; omega
    have J : Inv X pins σ (upd H p (.lst (L1.map fun x => V.ref x.1))) { ({ s with heap := h', toks := tk } : Shared) with heap := s'.heap, gens := s'.gens, drawn := s'.drawn, toks := s'.toks } :=
      I1.call (ch := []) (Un.laid k2 hp hnp) (I1.hok.laid k2 hp ⟨hlen, out, cc, vo, hg⟩) (by rw [g2]; exact I1.bare) (fun _ z => nomatch z)
    have e : s' = { s with heap := s'.heap, gens := s'.gens, drawn := s'.drawn, toks := s'.toks } := by
      cases s'; cases s; cases o2; rfl
    rw [e]
    exact ⟨.ref p, _, J, rfl, q p L1 hnp (fun x hx => sub x (hs1 x hx)) en⟩
end
/-! ### the expression -/
def rowsI : List D → Option (List Int)
  | [] => some []
  | .int n :: r => (rowsI r).map fun ns => n :: ns
  | _ => none
def rowsT : List D → Option (List (List Int))
  | [] => some []
  | .tuple (x :: r) :: t => (rowsI (x :: r)).bind fun k => (rowsT t).map fun ks => k :: ks
  | _ => none
def tupI (r : List Int) : D := .tuple (r.map .int)
def sortSetD : D → Option D
  | .list ds => match rowsI ds with
    | some ns => if ns.length ≤ 4000 then some (.list ((sortI ns).map .int)) else none
    | none => match rowsT ds with
      | some rs => if rs.length ≤ 4000 ∧ (dd rs).length ≤ 76 then some (.list ((sortR rs).map tupI)) else none
      | none => none
  | _ => none
section
variable {E : Ev} {A : Addr → Prop} {H : Hp}
theorem Reps.rowsI : ∀ {xs : List V} {ds : List D} {ns : List Int}, Reps E A H xs ds → Fx.rowsI ds = some ns → xs = ns.map V.int ∧ ds = ns.map PyData.int
  | _, _, _, .nil, h => by cases h; exact ⟨rfl, rfl⟩
  | _, _, _, .cons r t, h => by
    cases r <;> simp only [Fx.rowsI] at h
    all_goals first | (cases h; done) | skip
    simp only [Option.map_eq_some_iff] at h
    obtain ⟨ns, h1, rfl⟩ := h
    obtain ⟨e1, e2⟩ := Reps.rowsI t h1
    subst e1 e2
    exact ⟨rfl, rfl⟩
theorem Reps.rowsT : ∀ {xs : List V} {ds : List D} {ks : List (List Int)}, Reps E A H xs ds → Fx.rowsT ds = some ks → ∃ L : List (Addr × List Int), xs = L.map (fun p => V.ref p.1) ∧ L.map (·.2) = ks ∧ ∀ p ∈ L, ¬ A p.1 ∧ H p.1 = some (.tup (p.2.map V.int)) ∧ p.2 ≠ []
  | _, _, _, .nil, h => by cases h; exact ⟨[], rfl, rfl, fun p hp => (nomatch hp)⟩
  | _, _, ks, .cons r t, h => by
    cases r with
    | non => cases h
    | bl b => cases h
    | int i => cases h
    | str x => cases h
    | lst _ _ _ => cases h
    | dt _ _ _ => cases h
    | dk _ _ _ _ => cases h
    | @tup a vs ds e rs =>
     cases ds with
     | nil => cases h
     | cons d0 dr =>
      simp only [Fx.rowsT, Option.bind_eq_some_iff, Option.map_eq_some_iff] at h
      obtain ⟨k, h1, ks', h2, rfl⟩ := h
      obtain ⟨L, e1, e2, e3⟩ := Reps.rowsT t h2
      obtain ⟨e4, e5⟩ := rs.rowsI h1
      have hk : k ≠ [] := fun z => by rw [z] at e5; cases e5
      refine ⟨(a, k) :: L, by rw [List.map_cons, e1], by rw [List.map_cons, e2], fun p hp => ?_⟩
      rcases List.mem_cons.mp hp with rfl | hp
      · rcases e with ⟨n, e⟩ | ⟨e, _⟩
        · rw [e4] at e; exact ⟨n, e, hk⟩
        · rw [e] at rs; cases rs
      · exact e3 p hp
theorem reps_ints : ∀ ns : List Int, Reps E A H (ns.map V.int) (ns.map PyData.int)
  | [] => .nil
  | n :: ns => .cons (.int n) (reps_ints ns)
theorem reps_rows : ∀ {L : List (Addr × List Int)}, (∀ p ∈ L, ¬ A p.1 ∧ H p.1 = some (.tup (p.2.map V.int))) → Reps E A H (L.map fun p => V.ref p.1) ((L.map (·.2)).map tupI)
  | [], _ => .nil
  | p :: L, h => .cons (.tup (.inl (h p List.mem_cons_self)) (reps_ints p.2)) (reps_rows fun q hq => h q (List.mem_cons_of_mem _ hq))
end
def tSortSet (K : PySem.W.Frag) (ta : TE) : TE := fun σ H Q => ta σ H fun x H1 => (∃ (l : Addr) (ns : List Int), x = .ref l ∧ SqL K H1 l (ns.map V.int) ∧ ns.length ≤ 4000 ∧ ∀ p, H1 p = none → Q (.ref p) (upd H1 p (.lst ((sortI ns).map V.int)))) ∨
  (∃ (l : Addr) (ks : List (Addr × List Int)), x = .ref l ∧ SqL K H1 l (ks.map fun p => V.ref p.1) ∧ (∀ p ∈ ks, SqT K H1 p.1 (p.2.map V.int)) ∧ (∀ p ∈ ks, p.2 ≠ []) ∧ (ks.length ≤ 4000 ∧ (dd (ks.map (·.2))).length ≤ 76) ∧ ∀ p (L : List (Addr × List Int)), H1 p = none → (∀ x ∈ L, x ∈ ks) → L.map (·.2) = sortR (ks.map (·.2)) → Q (.ref p) (upd H1 p (.lst (L.map fun x => V.ref x.1))))
section
variable {X : Cx} {a : Expr} {f : Fe} {p p2 q pos : Pos}
theorem pe_sortSet {ta : TE} (hc : X.calm = true) (hu : X.A.units + 64 < cLine) (hg : Gl X "sorted") (hm : X.mg "sorted" = none) (hg2 : Gl X "set") (hm2 : X.mg "set" = none) (ha : PE X a ta)
    (na : starEach [a] X.env = (false, eval a X.env) :: starEach [] X.env := by rfl) (nb : starEach [Expr.Call (.Name "set" p2) [a] [] q] X.env = (false, eval (Expr.Call (.Name "set" p2) [a] [] q) X.env) :: starEach [] X.env := by rfl) :
    PE X (.Call (.Name "sorted" p) [.Call (.Name "set" p2) [a] [] q] [] pos) (tSortSet X.K ta) := by
  refine ⟨fun pins s σ H Q I h => ?_⟩
  refine Call_ (ld_blt I hg hm PyProof.Rows.boot_sorted ?_)
  refine PyProof.Rows.callWith_builtin1 (PyProof.Rows.args_cons ?_ nb) nb rfl
  refine Call_ (ld_blt I hg2 hm2 PyProof.Rows.boot_set ?_)
  refine PyProof.Rows.callWith_type1 (PyProof.Rows.args_cons (thn (ha.run pins s σ H _ I h) fun v s1 ⟨x, H1, I1, r1, q1⟩ => PyProof.Rows.args_nil ?_) na) na rfl
  rcases q1 with ⟨l, ns, rfl, h1, h2, h3⟩ | ⟨l, ks, rfl, h1, h2, h3, h4, h5⟩
  · cases r1
    exact wpAny_mono (sorted_setI hc hu I1 h1 h2 h3) (fun v s2 z => PyProof.Rows.args_nil z) fun _ _ z => z
  · cases r1
    exact wpAny_mono (sorted_setT' hc hu I1 h1 h2 h3 h4.1 h4.2 h5) (fun v s2 z => PyProof.Rows.args_nil z) fun _ _ z => z
theorem vf_sortSet (hc : X.calm = true) (hu : X.A.units + 64 < cLine) (hg : Gl X "sorted") (hm : X.mg "sorted" = none) (hg2 : Gl X "set") (hm2 : X.mg "set" = none) (ha : VE X a f)
    (na : starEach [a] X.env = (false, eval a X.env) :: starEach [] X.env := by rfl) (nb : starEach [Expr.Call (.Name "set" p2) [a] [] q] X.env = (false, eval (Expr.Call (.Name "set" p2) [a] [] q) X.env) :: starEach [] X.env := by rfl) :
    VF X (.Call (.Name "sorted" p) [.Call (.Name "set" p2) [a] [] q] [] pos) (eUn sortSetD f) := by
  obtain ⟨t, pt, sn⟩ := ha.ex
  refine ⟨_, pe_sortSet hc hu hg hm hg2 hm2 pt na nb, ?_⟩
  intro G W σ H s d s' R hf Q hq
  unfold eUn at hf
  simp only [Option.bind_eq_some_iff, Option.map_eq_some_iff] at hf
  obtain ⟨⟨x, s1⟩, e1, z, e2, e3⟩ := hf
  cases e3
  refine sn G W σ H s x _ R e1 _ fun v H1 R1 z1 p1 => ?_
  dsimp only at e2
  unfold sortSetD at e2
  split at e2
  · rename_i ds
    cases p1 with
    | @lst l xs ds n hl rs =>
      split at e2
      · rename_i ns hr
        split at e2
        · rename_i hlen
          cases e2
          obtain ⟨rfl, rfl⟩ := rs.rowsI hr
          exact .inl ⟨l, ns, rfl, SqL.of hl, hlen, fun p hn => hq p _ (none_back R z1 R1.there hn) (R1.laid hn) (z1.laid' hn) (new_list hn (reps_ints _))⟩
        · cases e2
      · split at e2
        · rename_i rs' hr
          split at e2
          · rename_i hlen
            cases e2
            obtain ⟨L, e1, e2, e3⟩ := rs.rowsT hr
            subst e1
            refine .inr ⟨l, L, rfl, SqL.of hl, fun p hp => .inl (.inl (e3 p hp).2.1), fun p hp => (e3 p hp).2.2, by rw [← e2, List.length_map] at hlen; exact hlen, fun p L' hn sub hs => ?_⟩
            rw [← e2, ← hs] at hq
            exact hq p _ (none_back R z1 R1.there hn) (R1.laid hn) (z1.laid' hn) (new_list hn (reps_rows fun q hq => ⟨(e3 q (sub q hq)).1, (e3 q (sub q hq)).2.1⟩))
          · cases e2
        · cases e2
  · cases e2
end
end Fx
-- Fx18
namespace Fx
open PySem PySem.Spec L2
/-! ### calls with keywords, every parameter given -/
structure VKw (X : Cx) (ks : List Keyword) (f : Fa) : Prop where
  ex : ∃ t, PK X ks t ∧ SndA (evX X) t f
section
variable {X : Cx} {k n : Nat} {f : Addr} {fd : FuncData} {ps ks : List Str} {g : List D → Option D} {x : Str} {p pos kpos : Pos} {e : Expr} {es : List Expr} {kws : List Keyword} {fa fk : Fa} {fe : Fe} {nm : Option Str}
theorem vk_nil : VKw X [] aNil := ⟨_, pk_nil, fun G W σ H s d s' R hf Q hq => by cases hf; exact hq [] H R Fz.refl .nil⟩
theorem vk_cons (h : VE X e fe) (hr : VKw X kws fa) : VKw X (⟨nm, e, kpos⟩ :: kws) (aCons fe fa) := by
  obtain ⟨t, p, sn⟩ := h.ex
  obtain ⟨tr, pr, sr⟩ := hr.ex
  refine ⟨_, pk_cons p pr, ?_⟩
  intro G W σ H s d s' R hf Q hq
  unfold aCons at hf
  simp only [Option.bind_eq_some_iff, Option.map_eq_some_iff] at hf
  obtain ⟨⟨x, s1⟩, h1, ⟨xs, s2⟩, h2, h3⟩ := hf
  cases h3
  refine sn G W σ H s x s1 R h1 _ fun v H1 R1 z1 p1 => ?_
  exact sr G W σ H1 s1 xs _ R1 h2 _ fun vs H2 R2 z2 p2 => hq _ H2 R2 (z1.trans z2) (.cons (p1.fz z2) p2)
def eFnK (n m : Nat) (g : List D → Option D) (fa fk : Fa) : Fe := fun s => (fa s).bind fun (xs, s1) => (fk s1).bind fun (ys, s2) => if xs.length = n ∧ ys.length = m then (g (xs ++ ys)).map fun z => (z, s2) else none
theorem ve_fnK {nn : Nat} (F : FnOk X.prog X.w X.K X.mg X.base CX0 k f fd ps (spV (evX X) nn g)) (hr : Room k X.A) (hg : Gl X x) (hm : X.mg x = some (.ref f)) (hk : PySem.W.keepIn X.K (.ref f) = true) (hb : KBn X.K fd ps n ks (· ++ ·) (· ++ ·)) (ha : VA X (e :: es) fa) (hw : VKw X kws fk) (hn : n + ks.length = nn)
    (hall : (backToKw pos (keywordEach kws X.env)).all (·.1.isSome) = true := by rfl) (hks : (backToKw pos (keywordEach kws X.env)).filterMap (·.1) = ks := by rfl)
    (hdb : (x == ("__debug__" : Str)) = false := by decide +kernel) (he : starEach (e :: es) X.env = (false, eval e X.env) :: starEach es X.env := by rfl)
    (hpl : ((backTo pos (starEach (e :: es) X.env)).any (·.1) || (backToKw pos (keywordEach kws X.env)).any (·.1.isNone)) = false := by rfl) :
    VE X (.Call (.Name x p) (e :: es) kws pos) (eFnK n ks.length g fa fk) := by
  obtain ⟨t, pa, sa⟩ := ha.ex
  obtain ⟨u, pk, sk⟩ := hw.ex
  refine ⟨_, pe_callN F hr hg hm hk hb (pass0 (X := X)) pa pk hall hks hdb he hpl, ?_⟩
  intro G W σ H s d s' R hf Q hq
  unfold eFnK at hf
  simp only [Option.bind_eq_some_iff] at hf
  obtain ⟨⟨xs, s1⟩, h1, ⟨ys, s2⟩, h2, h3⟩ := hf
  dsimp only at h3
  split at h3
  · rename_i hl
    simp only [Option.map_eq_some_iff] at h3
    obtain ⟨z, h4, h5⟩ := h3
    cases h5
    refine sa G W σ H s xs s1 R h1 _ fun vs H1 R1 z1 p1 => ?_
    refine sk G W σ H1 s1 ys _ R1 h2 _ fun zs H2 R2 z2 p2 => ⟨by rw [p1.length]; exact hl.1, by rw [p2.length]; exact hl.2, ?_⟩
    refine ⟨Av G W, xs ++ ys, d, by rw [List.length_append, hl.1, hl.2]; exact hn, (p1.fz z2).append p2, R2.fre, h4, fun v H3 sm p3 => ?_⟩
    exact hq v H3 (R2.same sm) ((z1.trans z2).trans (Fz.of_same sm)) p3
  · cases h3
theorem kbn_all {K : PySem.W.Frag} {x qual : Str} {st : Stmt} (F : Fun K x qual st f fd) (h : ∀ (kV doc pm : Value) (an : Option Addr) (cdv ct : Value) (us ws : List Value), us.length = n → ws.length = ks.length → bindArgs (PySem.W.fnOf x qual (defArgs st) (defBody st) (defScope st) .none kV doc pm an cdv ct) ⟨us, ks.zip ws⟩ = pure (ps.zip (us ++ ws))) :
    KBn K fd ps n ks (· ++ ·) (· ++ ·) := by
  obtain ⟨oc, od, kV, doc, pm, an, cdv, ct, osl, rfl, lk, hcd⟩ := F.ex
  refine ⟨fun s us ws _ h1 h2 => .of_eq (h kV doc pm an cdv ct us ws h1 h2), fun r1 r2 => ?_⟩
  induction r1 with
  | nil => exact r2
  | cons r _ ih => exact .cons r ih
end
end Fx
-- Fx19
namespace Fx
open PySem PySem.Spec L2
/-! ### the town is made; the law's def -/
def rowOf (ns : List Int) : List Int := if ns = [] then [0] else ns
def spTown (K : PySem.W.Frag) : Sp := fun vs H Q _ => ∃ (a : Addr) (ns : List Int), vs = [.ref a] ∧ SqL K H a (ns.map V.int) ∧ ns.length ≤ 63 ∧ ∀ tl rl H', tl ≠ rl → H' tl = some (.lst [.ref rl, .int 0]) → H' rl = some (.lst ((rowOf ns).map .int)) → Q (.ref tl) H'
def spLaw (K : PySem.W.Frag) : Sp := fun vs H Q _ => ∃ (a : Addr) (ns : List Int), vs = [.ref a] ∧ SqL K H a (ns.map V.int) ∧ ns.length ≤ 63 ∧ ∀ H', Q (.bl true) H'
theorem dpAll_ints {K : PySem.W.Frag} {H : Hp} : ∀ ns : List Int, DpAll K H (ns.map V.int) (ns.map PyData.int)
  | [] => .nil
  | n :: ns => .cons (.int n) (dpAll_ints ns)
theorem shaped_ints (ns : List Int) : SeqAt.shaped (.list (ns.map PyData.int)) = true := by
  have h1 : ∀ ns : List Int, PyData.canLayAll0 (ns.map PyData.int) = true := fun ns => by
    induction ns with
    | nil => rfl
    | cons n ns ih => show (PyData.canLay0 (.int n) && PyData.canLayAll0 (ns.map PyData.int)) = true; rw [ih]; rfl
  unfold SeqAt.shaped
  rw [PyData.depth, PySem.W.depth_ints, PyData.canLay0, h1]
  rfl
theorem eqv_nil (ns : List Int) : PyData.eqv (.list (ns.map PyData.int)) (.list []) = decide (ns = []) := by
  cases ns <;> rfl
section
variable {P : Program} {w : World} {K : PySem.W.Frag} {mg : Str → Option Value} {base : Heap} {st : Stmt} {f : Addr} {fd : FuncData}
theorem ok_town {p1 p2 p3 p4 p5 p6 p7 p8 p9 p10 p11 p12 : Pos} {k1 k2 : Nat} (F : Fun K "_law_town" "_law_town" st f fd) (S : FnScope ["script"] ["script"] (defScope st)) (ml : mg "list" = none)
    (hb : defBody st = [.Return (some (.List [.IfExp (.Compare (.Name "script" p1) [.NotEq] [.List [] p2] p3) (.Call (.Name "list" p4) [.Name "script" p5] [] p6) (.List [.Constant (.int 0) k1 p7] p8) p9, .Constant (.int 0) k2 p10] p11)) p12])
    (hl : (defScope st).names.lookup ("list" : Str) = some .globalImplicit) (hs : (defScope st).names.lookup ("script" : Str) = some .local) : FnOk P w K mg base CX0 1 f fd ["script"] (spTown K) := by
  refine F.ok S (fun vs H Q E h => ?_) (fun cdv A outer s H vs Q E hr h => ?_)
  · obtain ⟨a, ns, rfl, _⟩ := h
    rfl
  · obtain ⟨a, ns, rfl, hS, hlen, q⟩ := h
    rw [hb]
    have hu : (cxB P w K mg base ["script"] "_law_town" st f cdv A outer s H E).A.units + 64 < cLine := hr.units
    refine ⟨_, pss_one (ps_ret (pe_lst (pa_cons (pe_ifExp (pt_cmpR (op_neD hu) (pe_var (i := 0) rfl (.inl hs) (by decide) (by decide)) (pe_lst pa_nil) rfl) (pe_callTy call_list_of hl ml (by decide +kernel) (pa_cons (pe_var (i := 0) rfl (.inl hs) (by decide) (by decide)) pa_nil)) (pe_lst (pa_cons pe_int pa_nil))) (pa_cons pe_int pa_nil)))), ?_⟩
    refine ⟨.ref a, rfl, Nat.zero_le _, fun e ne => ?_⟩
    have s1 : Same H (upd H e (.lst [])) := same_new ne
    refine ⟨.list (ns.map .int), .list [], .lst (s1.seq hS) (dpAll_ints ns), .lst (SqL.of upd_same) .nil, shaped_ints ns, rfl, ?_⟩
    rw [eqv_nil]
    refine ⟨_, rfl, ?_⟩
    by_cases h0 : ns = []
    · subst h0
      show if (!decide (([] : List Int) = [])) = true then _ else _
      rw [if_neg (by decide)]
      refine ⟨Nat.le_of_ble_eq_true rfl, fun r nr => ⟨Nat.le_of_ble_eq_true rfl, fun t nt => ?_⟩⟩
      have ntr : t ≠ r := fun z => by rw [z, upd_same] at nt; cases nt
      exact q t r _ ntr upd_same (by rw [upd_ne ntr.symm, upd_same]; rfl)
    · show if (!decide (ns = [])) = true then _ else _
      rw [if_pos (by simpa using h0)]
      refine ⟨.ref a, rfl, a, ns.map V.int, rfl, .inl (s1.seq hS), fun r nr => ⟨Nat.le_of_ble_eq_true rfl, fun t nt => ?_⟩⟩
      have ntr : t ≠ r := fun z => by rw [z, upd_same] at nt; cases nt
      exact q t r _ ntr upd_same (by rw [upd_ne ntr.symm, upd_same]; unfold rowOf; rw [if_neg h0])
abbrev W1 (t : Addr × Addr) : Wt := ⟨fun _ => none, some t⟩
/-- the state behind town = _law_town(script) -/
def stLaw (n : Nat) (ns : List Int) : S := ⟨.any :: .tn :: List.replicate (n - 2) .no, some (rowOf ns, 0)⟩
theorem relLaw {E : Ev} {H : Hp} {a tl rl : Addr} {ns : List Int} {n : Nat} (h1 : tl ≠ rl) (h2 : H tl = some (.lst [.ref rl, .int 0])) (h3 : H rl = some (.lst ((rowOf ns).map .int))) : Rel E ⟨fun _ => none, fun _ => False⟩ (W1 (tl, rl)) H (some (.ref a) :: some (.ref tl) :: List.replicate (n - 2) none) (stLaw n ns) := by
  have key : ∀ {j : Nat} {c : C}, (stLaw n ns).rho[j]? = some c → (j = 0 ∧ c = .any) ∨ (j = 1 ∧ c = .tn) ∨ (∃ i, j = i + 2 ∧ i < n - 2 ∧ c = .no) := fun {j c} q => by
    unfold stLaw at q
    match j, q with
    | 0, q => simp at q; exact .inl ⟨rfl, q.symm⟩
    | 1, q => simp at q; exact .inr (.inl ⟨rfl, q.symm⟩)
    | j + 2, q =>
      simp only [List.getElem?_cons_succ, List.getElem?_replicate] at q
      split at q
      · rename_i hl; cases q; exact .inr (.inr ⟨j, rfl, hl, rfl⟩)
      · cases q
  exact {
    len := by unfold stLaw; simp
    fr := fun a o e _ => by cases e
    val := fun j d q => by rcases key q with ⟨_, z⟩ | ⟨_, z⟩ | ⟨_, _, _, z⟩ <;> cases z
    own := fun j d q => by rcases key q with ⟨_, z⟩ | ⟨_, z⟩ | ⟨_, _, _, z⟩ <;> cases z
    dom := fun j a q => by cases q
    inj := fun j k a q => by cases q
    obj := fun a h => h.elim
    tow := ⟨h1, h2, h3⟩
    tnc := fun j q => by
      rcases key q with ⟨_, z⟩ | ⟨rfl, z⟩ | ⟨_, _, _, z⟩
      · cases z
      · exact ⟨tl, rl, rfl, rfl⟩
      · cases z
    rwc := fun j q => by rcases key q with ⟨_, z⟩ | ⟨_, z⟩ | ⟨_, _, _, z⟩ <;> cases z
    noc := fun j q => by
      rcases key q with ⟨_, z⟩ | ⟨_, z⟩ | ⟨i, rfl, h, z⟩
      · cases z
      · cases z
      · simp only [List.getElem?_cons_succ, List.getElem?_replicate, if_pos h] }
def isTrueOut : Option (Fl × S) → Bool
  | some (.ret (.bool true), _) => true
  | _ => false
/-- the law's def: what stands behind the town's line gives True -/
theorem ok_law {p1 p2 p3 p4 p5 : Pos} {k : Nat} {N : List Str} {rest : List Stmt} {Fb : Fs} {fT : Addr} {fdT : FuncData} (F : Fun K "law" "law" st f fd) (S : FnScope ("script" :: "town" :: N) ["script"] (defScope st)) (FT : FnOk P w K mg base CX0 1 fT fdT ["script"] (spTown K)) (gT : mg "_law_town" = some (.ref fT)) (kT : PySem.W.keepIn K (.ref fT) = true) (bT : Binds K fdT ["script"] [])
    (hb : defBody st = .Assign [.Name "town" p1] (.Call (.Name "_law_town" p2) [.Name "script" p3] [] p4) p5 :: rest) (hl : (defScope st).names.lookup ("_law_town" : Str) = some .globalImplicit) (hs : (defScope st).names.lookup ("script" : Str) = some .local) (ht : Loc (defScope st) "town")
    (hr : ∀ (cdv : Value) (A : Around) (outer : List Env) (s : Shared) (H : Hp) (E : XK), Room (k + 1) (A.deeper (PyProof.Rows.envOfC "law" (defScope st) s.heap.objs.size f cdv)) → VB (cxB P w K mg base ("script" :: "town" :: N) "law" st f cdv A outer s H E) rest Fb)
    (ok : ∀ ns : List Int, ns.length ≤ 63 → isTrueOut (Fb (stLaw (N.length + 2) ns)) = true) : FnOk P w K mg base CX0 (k + 2) f fd ["script"] (spLaw K) := by
  refine F.ok S (fun vs H Q E h => ?_) (fun cdv A outer s H vs Q E hrm h => ?_)
  · obtain ⟨a, ns, rfl, _⟩ := h
    rfl
  · obtain ⟨a, ns, rfl, hS, hlen, q⟩ := h
    rw [hb]
    obtain ⟨t, pt, sn⟩ := (hr cdv A outer s H E hrm).ex
    refine ⟨_, pss_cons (ps_set (i := 1) S.nd rfl ht (pe_call FT (hrm.mono (by omega)) hl gT kT bT .nil pass0 (pa_cons (pe_var (i := 0) rfl (.inl hs) (by decide) (by decide)) pa_nil)) rfl (.inl rfl)) pt, ?_⟩
    refine ⟨.ref a, rfl, a, ns, rfl, hS, hlen, fun tl rl H1 h1 h2 h3 => ?_⟩
    have R := relLaw (E := ⟨P, w, K⟩) (a := a) (n := N.length + 2) (ns := ns) h1 h2 h3
    refine sn _ _ _ H1 _ _ R ?_
    have o := ok ns hlen
    show Post _ _ _ _ _ (Fb (stLaw (N.length + 2) ns))
    generalize Fb (stLaw (N.length + 2) ns) = r at o
    unfold isTrueOut at o
    split at o
    · intro W' v H' l _ rp
      cases rp
      exact q H'
    · cases o
end
end Fx
-- Fx20
namespace Fx
open PySem PySem.Spec L2
section
variable {k : Nat} {A : Around}
theorem u1 (r : Room k A) : A.units + 1 < cLine := by have := r.un; omega
theorem u64 (r : Room k A) : A.units + 64 < cLine := by have := r.un; omega
theorem u65 (r : Room k A) : A.units + 65 < cLine := by have := r.un; omega
end
/-- an expression that is not reached -/
def eNo : Fe := fun _ => none
theorem ve_no {X : Cx} {e : Expr} : VE X e eNo := ⟨fun _ _ _ => False, ⟨fun _ _ _ _ _ _ h => h.elim⟩, fun _ _ _ _ _ _ _ _ h => nomatch h⟩
def sThenFrz (i : Nat) (F : Fs) : Fs := fun s => match F s with
  | some (.next, s1) => match s1.rho[i]? with
    | some (.own (.list ds)) => some (.next, s1.put i (.val (.list ds)))
    | _ => none
  | _ => none
theorem vs_thenFrz (i : Nat) {X : Cx} {st : Stmt} {F : Fs} (h : VS X st F) : VS X st (sThenFrz i F) := by
  obtain ⟨t, p, sn⟩ := h.ex
  refine ⟨t, p, fun G W σ H s Dn R po => sn G W σ H s Dn R ?_⟩
  unfold sThenFrz at po
  match e : F s, po with
  | none, po => exact po.elim
  | some (.next, s1), po =>
    dsimp only at po
    split at po
    · rename_i ds e1
      intro W' σ' H' R' z k
      obtain ⟨a, e2, _, _⟩ := R'.own i _ e1
      obtain ⟨R2, z2⟩ := R'.freeze e1 e2 (H' := H') rfl
      exact po _ σ' H' R2 (z.trans z2) (k.trans wk_del)
    · exact po.elim
  | some (.brk, _), po => exact po.elim
  | some (.cont, _), po => exact po.elim
  | some (.ret _, _), po => exact po.elim
  | some (.retF _, _), po => exact po.elim
theorem vs_par3 {X : Cx} {i j l : Nat} {x y z : Str} {a b c : Expr} {fa : Fa} {px py pz pt pt2 pos : Pos} {kt k2 : Nat} (ha : VA X [a, b, c] fa) (hc : X.calm = true) (hN : X.N.Nodup) (hi : X.N[i]? = some x := by rfl) (hj : X.N[j]? = some y := by rfl) (hl : X.N[l]? = some z := by rfl) (hij : i ≠ j := by decide) (hil : i ≠ l := by decide) (hjl : j ≠ l := by decide)
    (hx : X.env.scope.names.lookup x = some .local := by rfl) (hy : X.env.scope.names.lookup y = some .local := by rfl) (hz : X.env.scope.names.lookup z = some .local := by rfl)
    (hw : swappedStores [.Tuple [.Name x px, .Name y py, .Name z pz] kt pt] (.Tuple [a, b, c] k2 pt2) X.env = pure (some [x, y, z]) := by rfl)
    (hs : swapsWithSole [.Tuple [.Name x px, .Name y py, .Name z pz] kt pt] (.Tuple [a, b, c] k2 pt2) pos.line X.env = pure false := by rfl) :
    VS X (.Assign [.Tuple [.Name x px, .Name y py, .Name z pz] kt pt] (.Tuple [a, b, c] k2 pt2) pos) (sPar3 i j l fa) := by
  obtain ⟨t, p, sn⟩ := ha.ex
  refine ⟨_, ps_par3 hc hN hi hj hl hij hil hjl hx hy hz p hw hs, fun G W σ H s Dn R po => ?_⟩
  unfold sPar3 at po
  match e1 : fa s, po with
  | none, po => exact po.elim
  | some (ds, s1), po =>
    dsimp only [Option.bind] at po
    split at po
    · refine sn G W σ H s _ s1 R e1 _ fun v H1 R1 z1 p1 => ?_
      cases p1 with
      | cons r1 rt =>
        cases rt with
        | cons r2 rt =>
          cases rt with
          | cons r3 rn =>
            cases rn
            refine ⟨_, _, _, rfl, po _ _ H1 (((R1.put r1).put (r2.weak av_del)).put ((r3.weak av_del).weak av_del)) (((z1.trans fz_del).trans fz_del).trans fz_del) ((wk_del.trans wk_del).trans wk_del)⟩
    · exact po.elim
end Fx
-- Fe0
namespace Fx
open PySem PySem.Spec L2
/-! ### the functions' values -/
section
variable {f1 f2 f3 f c : Fe} {fa : Fa} {s s1 s2 : S} {p q : Bool} {d x y z : D} {g : D → D → Option D} {h : D → Option D} {k : List D → Option D} {xs : List D} {n : Nat} {F F1 F2 : Fs} {r : Option (Fl × S)}
theorem eAnd_ev (h1 : f1 s = some (.bool p, s1)) (h2 : p = true → f2 s1 = some (.bool q, s1)) : eAnd f1 f2 s = some (.bool (p && q), s1) := by
  unfold eAnd
  rw [h1]
  cases p with
  | false => rfl
  | true => exact h2 rfl
theorem eOr_ev (h1 : f1 s = some (.bool p, s1)) (h2 : p = false → f2 s1 = some (.bool q, s1)) : eOr f1 f2 s = some (.bool (p || q), s1) := by
  unfold eOr
  rw [h1]
  cases p with
  | true => rfl
  | false => exact h2 rfl
theorem eBin_ev (h1 : f1 s = some (x, s1)) (h2 : f2 s1 = some (y, s2)) (h3 : g x y = some z) : eBin g f1 f2 s = some (z, s2) := by
  unfold eBin
  simp only [h1, h2, h3, Option.bind_some, Option.map_some]
theorem eUn_ev (h1 : f1 s = some (x, s1)) (h3 : h x = some z) : eUn h f1 s = some (z, s1) := by
  unfold eUn
  simp only [h1, h3, Option.bind_some, Option.map_some]
theorem not_ev (h1 : f1 s = some (.bool p, s1)) : eUn notD f1 s = some (.bool (!p), s1) := eUn_ev h1 rfl
theorem eFn_ev (h1 : fa s = some (xs, s1)) (hn : xs.length = n) (h2 : k xs = some d) : eFn n k fa s = some (d, s1) := by
  unfold eFn
  simp only [h1, h2, hn, Option.bind_some, Option.map_some, if_true]
theorem eCall_ev (h1 : fa s = some (xs, s1)) (h2 : k xs = some d) : eCall k fa s = some (d, s1) := by
  unfold eCall
  simp only [h1, h2, Option.bind_some, Option.map_some]
theorem aCons_ev (h1 : f s = some (x, s1)) (h2 : fa s1 = some (xs, s2)) : aCons f fa s = some (x :: xs, s2) := by
  unfold aCons
  simp only [h1, h2, Option.bind_some, Option.map_some]
theorem aOne_ev (h1 : f s = some (x, s1)) : aCons f aNil s = some ([x], s1) := aCons_ev h1 rfl
theorem eTup_ev (h1 : fa s = some (xs, s1)) (hl : xs.length ≤ 100000) : eTup fa s = some (.tuple xs, s1) := by
  unfold eTup
  simp only [h1, Option.bind_some, if_pos hl]
theorem eLst_ev (h1 : fa s = some (xs, s1)) (hl : xs.length ≤ 100000) : eLst fa s = some (.list xs, s1) := by
  unfold eLst
  simp only [h1, Option.bind_some, if_pos hl]
theorem sSeq_ev (h1 : F1 s = some (.next, s1)) (h2 : F2 s1 = r) : sSeq F1 F2 s = r := by
  unfold sSeq
  rw [h1]
  exact h2
theorem sSeq_ret {rv : Fl} (h1 : F1 s = some (rv, s1)) (hr : rv ≠ .next) : sSeq F1 F2 s = some (rv, s1) := by
  unfold sSeq
  rw [h1]
  cases rv <;> first | rfl | exact absurd rfl hr
theorem sSeq_for {P : S → Prop} (h1 : ∃ s', F1 s = some (.next, s') ∧ P s') (h2 : ∀ s', P s' → F2 s' = r) : sSeq F1 F2 s = r := by
  obtain ⟨s', e, p⟩ := h1
  exact sSeq_ev e (h2 s' p)
theorem sIf_ev (h1 : c s = some (.bool p, s1)) (ht : p = true → F1 s1 = r) (hf : p = false → F2 s1 = r) : sIf c F1 F2 s = r := by
  unfold sIf
  rw [h1]
  cases p with
  | true => exact ht rfl
  | false => exact hf rfl
theorem sIf_f (h1 : c s = some (.bool false, s1)) (hf : F2 s1 = r) : sIf c F1 F2 s = r := sIf_ev h1 (fun z => nomatch z) fun _ => hf
theorem sIf_t (h1 : c s = some (.bool true, s1)) (hf : F1 s1 = r) : sIf c F1 F2 s = r := sIf_ev h1 (fun _ => hf) fun z => nomatch z
theorem sRet_ev (h : f s = some (d, s1)) : sRet f s = some (.ret d, s1) := by unfold sRet; rw [h]; rfl
theorem sSet_ev {i : Nat} (h : f s = some (d, s1)) : sSet i f s = some (.next, s1.put i (.val d)) := by unfold sSet; rw [h]; rfl
theorem sExpr_ev (h : f s = some (d, s1)) : sExpr f s = some (.next, s1) := by unfold sExpr; rw [h]; rfl
theorem sAsg_ev {gt : Fg} (h : f s = some (d, s1)) (h2 : gt d s1 = some s2) : sAsg f gt s = some (.next, s2) := by unfold sAsg; rw [h]; simp only [Option.bind_some, h2, Option.map_some]
theorem sSetF_ev {i : Nat} (h : f s = some (d, s1)) (hi : i < s1.rho.length) : sSetF i f s = some (.next, s1.put i (.own d)) := by unfold sSetF; rw [h]; simp only [Option.bind_some, if_pos hi]
theorem sExt_ev {i : Nat} {ds es : List D} (h0 : s.ownL i = some ds) (h : f s = some (.list es, s)) (hl : ds.length + es.length ≤ 100000) : sExt i f s = some (.next, s.put i (.own (.list (ds ++ es)))) := by
  unfold sExt
  simp only [h0, h, Option.bind_some, if_pos hl]
theorem fnV_ev {ds : List D} {rho : List C} (h : F (st0 n ds) = some (.ret d, ⟨rho, none⟩)) : fnV n F ds = some d := by unfold fnV; rw [h]; rfl
theorem fnV_next {ds : List D} {rho : List C} (h : F (st0 n ds) = some (.next, ⟨rho, none⟩)) : fnV n F ds = some .none := by unfold fnV; rw [h]; rfl
theorem fnV_list {ds es : List D} {rho : List C} (h : F (st0 n ds) = some (.retF (.list es), ⟨rho, none⟩)) : fnV n F ds = some (.list es) := by unfold fnV; rw [h]; rfl
end
theorem iterS_ev {f : Fe} {s s1 : S} {d : D} {ds : List D} (h : f s = some (d, s1)) (h2 : seqD d = some ds) : iterS f s = some (ds, s1) := by
  unfold iterS
  rw [h, Option.bind_some]
  dsimp only
  rw [h2]
  rfl
/-! with the state behind told by what holds of it -/
section
variable {F F1 F2 : Fs} {s : S} {r : Fl} {P Q : S → Prop} {n : Nat} {ds : List D} {d v v' : D} {b : Bool}
theorem fnV_ex (h : ∃ s', F (st0 n ds) = some (.ret d, s') ∧ s'.tw = none) : fnV n F ds = some d := by
  obtain ⟨⟨rho, tw⟩, h1, h2⟩ := h
  cases h2
  exact fnV_ev h1
theorem seq_ex (h1 : ∃ s1, F1 s = some (.next, s1) ∧ P s1) (h2 : ∀ s1, P s1 → ∃ s2, F2 s1 = some (r, s2) ∧ Q s2) : ∃ s2, sSeq F1 F2 s = some (r, s2) ∧ Q s2 := by
  obtain ⟨s1, e, p⟩ := h1
  obtain ⟨s2, e2, q⟩ := h2 s1 p
  exact ⟨s2, sSeq_ev e e2, q⟩
theorem seq_until (h1 : ∃ s1, F1 s = some (if b then .ret v else .next, s1) ∧ P s1) (h2 : b = false → ∀ s1, P s1 → ∃ s2, F2 s1 = some (.ret v', s2) ∧ P s2) : ∃ s2, sSeq F1 F2 s = some (.ret (if b then v else v'), s2) ∧ P s2 := by
  obtain ⟨s1, e, p⟩ := h1
  cases b with
  | true => exact ⟨s1, sSeq_ret e (fun z => nomatch z), p⟩
  | false =>
    obtain ⟨s2, e2, q⟩ := h2 rfl s1 p
    exact ⟨s2, sSeq_ev e e2, q⟩
theorem ex_of {s1 : S} (h : F s = some (r, s1)) (hp : P s1) : ∃ s', F s = some (r, s') ∧ P s' := ⟨s1, h, hp⟩
end
/-! comprehensions -/
section
variable {α : Type} {fi : Fa} {g : Fg} {ft f : Fe} {vs : List Nat} {s : S}
theorem cl_ev (enc : α → D) (p : α → Bool) (out : α → D) {w : S} : ∀ {xs : List α} {acc : List D}, (∀ x ∈ xs, ∃ sx, g (enc x) w = some sx ∧ ft sx = some (.bool (p x), sx) ∧ (p x = true → f sx = some (out x, sx)) ∧ sx.wipe vs = w) → acc.length + xs.length ≤ 100000 → clLoop g ft vs (pEmit f) (xs.map enc) acc w = some (acc ++ (xs.filter p).map out, w)
  | [], acc, _, _ => by simp [clLoop]
  | x :: xs, acc, h, hl => by
    obtain ⟨sx, h1, h2, h3, h4⟩ := h x List.mem_cons_self
    have hr : ∀ y ∈ xs, ∃ sx, g (enc y) w = some sx ∧ ft sx = some (.bool (p y), sx) ∧ (p y = true → f sx = some (out y, sx)) ∧ sx.wipe vs = w := fun y hy => h y (List.mem_cons_of_mem _ hy)
    rw [List.length_cons] at hl
    rw [List.map_cons]
    unfold clLoop
    rw [h1, Option.bind_some, h2, Option.bind_some]
    cases q : p x with
    | true =>
      dsimp only
      unfold pEmit
      rw [h3 q, Option.bind_some]
      dsimp only
      rw [if_pos (by omega), Option.bind_some, h4]
      have ih := cl_ev enc p out (acc := acc ++ [out x]) hr (by rw [List.length_append, List.length_singleton]; omega)
      unfold pEmit at ih
      rw [ih, List.filter_cons_of_pos q, List.map_cons, List.append_assoc]
      rfl
    | false =>
      dsimp only
      rw [h4]
      have ih := cl_ev enc p out (acc := acc) hr (by omega)
      rw [ih, List.filter_cons_of_neg (by rw [q]; exact Bool.false_ne_true)]
theorem comp_ev (xs : List α) (enc : α → D) (p : α → Bool) (out : α → D) {s1 : S} (h1 : fi s = some (xs.map enc, s1)) (hv : noOwn s1 vs = true) (hm : s1.mix (s1.wipe vs) vs = s1) (hs : ∀ x ∈ xs, ∃ sx, g (enc x) (s1.wipe vs) = some sx ∧ ft sx = some (.bool (p x), sx) ∧ (p x = true → f sx = some (out x, sx)) ∧ sx.wipe vs = s1.wipe vs) (hl : xs.length ≤ 100000) :
    eComp fi g ft vs (pEmit f) s = some (.list ((xs.filter p).map out), s1) := by
  unfold eComp
  rw [h1, Option.bind_some]
  dsimp only
  rw [if_pos hv, cl_ev enc p out hs (by simpa using hl), Option.map_some]
  dsimp only
  rw [hm, List.nil_append]
theorem clg_ev (enc : α → D) (p : α → Bool) (L : α → List D) {inner : Fp} {w : S} : ∀ {xs : List α} {acc : List D}, (∀ x ∈ xs, ∃ sx, g (enc x) w = some sx ∧ ft sx = some (.bool (p x), sx) ∧ (p x = true → ∀ acc, acc.length + (L x).length ≤ 100000 → inner acc sx = some (acc ++ L x, sx)) ∧ sx.wipe vs = w) → acc.length + ((xs.filter p).flatMap L).length ≤ 100000 → clLoop g ft vs inner (xs.map enc) acc w = some (acc ++ (xs.filter p).flatMap L, w)
  | [], acc, _, _ => by simp [clLoop]
  | x :: xs, acc, h, hl => by
    obtain ⟨sx, h1, h2, h3, h4⟩ := h x List.mem_cons_self
    have hr : ∀ y ∈ xs, ∃ sx, g (enc y) w = some sx ∧ ft sx = some (.bool (p y), sx) ∧ (p y = true → ∀ acc, acc.length + (L y).length ≤ 100000 → inner acc sx = some (acc ++ L y, sx)) ∧ sx.wipe vs = w := fun y hy => h y (List.mem_cons_of_mem _ hy)
    rw [List.map_cons]
    unfold clLoop
    rw [h1, Option.bind_some, h2, Option.bind_some]
    cases q : p x with
    | true =>
      rw [List.filter_cons_of_pos q, List.flatMap_cons, List.length_append] at hl
      dsimp only
      rw [h3 q acc (by omega), Option.bind_some]
      dsimp only
      rw [h4, clg_ev enc p L hr (by rw [List.length_append]; omega), List.filter_cons_of_pos q, List.flatMap_cons, List.append_assoc]
    | false =>
      have q' : ¬ p x = true := by rw [q]; exact Bool.false_ne_true
      rw [List.filter_cons_of_neg q'] at hl ⊢
      dsimp only
      rw [h4, clg_ev enc p L hr hl]
theorem compg_ev (xs : List α) (enc : α → D) (p : α → Bool) (L : α → List D) {inner : Fp} {s1 : S} (h1 : fi s = some (xs.map enc, s1)) (hv : noOwn s1 vs = true) (hm : s1.mix (s1.wipe vs) vs = s1) (hs : ∀ x ∈ xs, ∃ sx, g (enc x) (s1.wipe vs) = some sx ∧ ft sx = some (.bool (p x), sx) ∧ (p x = true → ∀ acc, acc.length + (L x).length ≤ 100000 → inner acc sx = some (acc ++ L x, sx)) ∧ sx.wipe vs = s1.wipe vs) (hl : ((xs.filter p).flatMap L).length ≤ 100000) :
    eComp fi g ft vs inner s = some (.list ((xs.filter p).flatMap L), s1) := by
  unfold eComp
  rw [h1, Option.bind_some]
  dsimp only
  rw [if_pos hv, clg_ev enc p L hs (by simpa using hl), Option.map_some]
  dsimp only
  rw [hm, List.nil_append]
/-- an inner clause -/
theorem pfor_ev (ys : List α) (enc : α → D) (p : α → Bool) (out : α → D) {acc : List D} (h0 : allNo s vs = true) (h1 : fi s = some (ys.map enc, s)) (hs : ∀ y ∈ ys, ∃ sy, g (enc y) s = some sy ∧ ft sy = some (.bool (p y), sy) ∧ (p y = true → f sy = some (out y, sy)) ∧ sy.wipe vs = s) (hl : acc.length + ys.length ≤ 100000) :
    pFor fi g ft vs (pEmit f) acc s = some (acc ++ (ys.filter p).map out, s) := by
  unfold pFor
  rw [if_pos h0, h1, Option.bind_some]
  exact cl_ev enc p out hs hl
/-- .. without a test -/
theorem map_ev (xs : List α) (enc : α → D) (out : α → D) {s1 : S} (h1 : fi s = some (xs.map enc, s1)) (hv : noOwn s1 vs = true) (hm : s1.mix (s1.wipe vs) vs = s1) (hs : ∀ x ∈ xs, ∃ sx, g (enc x) (s1.wipe vs) = some sx ∧ f sx = some (out x, sx) ∧ sx.wipe vs = s1.wipe vs) (hl : xs.length ≤ 100000) :
    eComp fi g (eC (.bool true)) vs (pEmit f) s = some (.list (xs.map out), s1) := by
  have h := comp_ev (ft := eC (.bool true)) xs enc (fun _ => true) out h1 hv hm (fun x hx => by obtain ⟨sx, a, b, c⟩ := hs x hx; exact ⟨sx, a, rfl, fun _ => b, c⟩) hl
  rw [h, List.filter_eq_self.mpr fun _ _ => rfl]
/-! loops -/
theorem loop_inv {β : Type} {F : Fs} (enc : α → D) (I : β → S → Prop) (step : β → α → β) : ∀ {xs : List α}, (∀ b s x, x ∈ xs → I b s → ∃ s1 s2, g (enc x) s = some s1 ∧ (F s1 = some (.next, s2) ∨ F s1 = some (.cont, s2)) ∧ I (step b x) s2) → ∀ {b : β} {s : S}, I b s → ∃ s', loopF g F (xs.map enc) s = some (.next, s') ∧ I (xs.foldl step b) s'
  | [], _, b, s, h => ⟨s, rfl, h⟩
  | x :: xs, hs, b, s, h => by
    obtain ⟨s1, s2, h1, h2, h3⟩ := hs b s x List.mem_cons_self h
    obtain ⟨s', h4, h5⟩ := loop_inv enc I step (fun b s y hy hI => hs b s y (List.mem_cons_of_mem _ hy) hI) h3
    refine ⟨s', ?_, h5⟩
    rw [List.map_cons]
    unfold loopF
    rw [h1, Option.bind_some]
    rcases h2 with h2 | h2 <;> rw [h2] <;> exact h4
theorem for_inv {β : Type} {F : Fs} (xs : List α) (enc : α → D) (I : β → S → Prop) (step : β → α → β) {b : β} {s1 : S} (h0 : fi s = some (xs.map enc, s1)) (hI : I b s1) (h : ∀ b s x, x ∈ xs → I b s → ∃ s1 s2, g (enc x) s = some s1 ∧ (F s1 = some (.next, s2) ∨ F s1 = some (.cont, s2)) ∧ I (step b x) s2) : ∃ s', sFor fi g F s = some (.next, s') ∧ I (xs.foldl step b) s' := by
  obtain ⟨s', h1, h2⟩ := loop_inv enc I step h hI
  refine ⟨s', ?_, h2⟩
  unfold sFor
  rw [h0, Option.bind_some]
  exact h1
/-- by what has been walked so far -/
theorem loop_pre {F : Fs} (enc : α → D) (I : List α → S → Prop) {all : List α} (h : ∀ pre x suf s, all = pre ++ x :: suf → I pre s → ∃ s1 s2, g (enc x) s = some s1 ∧ (F s1 = some (.next, s2) ∨ F s1 = some (.cont, s2)) ∧ I (pre ++ [x]) s2) : ∀ (xs pre : List α) {s : S}, all = pre ++ xs → I pre s → ∃ s', loopF g F (xs.map enc) s = some (.next, s') ∧ I all s'
  | [], pre, s, e, hI => ⟨s, rfl, by rw [e, List.append_nil]; exact hI⟩
  | x :: xs, pre, s, e, hI => by
    obtain ⟨s1, s2, h1, h2, h3⟩ := h pre x xs s e hI
    obtain ⟨s', h4, h5⟩ := loop_pre enc I h xs (pre ++ [x]) (by rw [e, List.append_assoc]; rfl) h3
    refine ⟨s', ?_, h5⟩
    rw [List.map_cons]
    unfold loopF
    rw [h1, Option.bind_some]
    rcases h2 with h2 | h2 <;> rw [h2] <;> exact h4
theorem for_pre {F : Fs} (xs : List α) (enc : α → D) (I : List α → S → Prop) {s1 : S} (h0 : fi s = some (xs.map enc, s1)) (hI : I [] s1) (h : ∀ pre x suf s, xs = pre ++ x :: suf → I pre s → ∃ s1 s2, g (enc x) s = some s1 ∧ (F s1 = some (.next, s2) ∨ F s1 = some (.cont, s2)) ∧ I (pre ++ [x]) s2) : ∃ s', sFor fi g F s = some (.next, s') ∧ I xs s' := by
  obtain ⟨s', h1, h2⟩ := loop_pre enc I h xs [] rfl hI
  refine ⟨s', ?_, h2⟩
  unfold sFor
  rw [h0, Option.bind_some]
  exact h1
/-- a loop that may end by a return: until p holds -/
theorem loop_until {F : Fs} (enc : α → D) (I : S → Prop) (p : α → Bool) {rv : Fl} (hrv : ∃ d, rv = .ret d) : ∀ {xs : List α}, (∀ s x, x ∈ xs → I s → ∃ s1 s2, g (enc x) s = some s1 ∧ (p x = true → F s1 = some (rv, s2)) ∧ (p x = false → F s1 = some (.next, s2)) ∧ I s2) → ∀ {s : S}, I s → ∃ s', loopF g F (xs.map enc) s = some (if xs.any p then rv else .next, s') ∧ I s'
  | [], _, s, h => ⟨s, rfl, h⟩
  | x :: xs, hs, s, h => by
    obtain ⟨s1, s2, h1, h2, h3, h4⟩ := hs s x List.mem_cons_self h
    rw [List.map_cons]
    unfold loopF
    rw [h1, Option.bind_some]
    cases q : p x with
    | true =>
      rw [h2 q]
      obtain ⟨d, rfl⟩ := hrv
      exact ⟨s2, by rw [List.any_cons, q]; rfl, h4⟩
    | false =>
      rw [h3 q]
      obtain ⟨s', h5, h6⟩ := loop_until enc I p hrv (fun s y hy hI => hs s y (List.mem_cons_of_mem _ hy) hI) h4
      exact ⟨s', by rw [List.any_cons, q, Bool.false_or]; exact h5, h6⟩
theorem for_until {F : Fs} (xs : List α) (enc : α → D) (I : S → Prop) (p : α → Bool) {rv : Fl} (hrv : ∃ d, rv = .ret d) {s1 : S} (h0 : fi s = some (xs.map enc, s1)) (hI : I s1) (h : ∀ s x, x ∈ xs → I s → ∃ s1 s2, g (enc x) s = some s1 ∧ (p x = true → F s1 = some (rv, s2)) ∧ (p x = false → F s1 = some (.next, s2)) ∧ I s2) : ∃ s', sFor fi g F s = some (if xs.any p then rv else .next, s') ∧ I s' := by
  obtain ⟨s', h1, h2⟩ := loop_until enc I p hrv h hI
  refine ⟨s', ?_, h2⟩
  unfold sFor
  rw [h0, Option.bind_some]
  exact h1
end
theorem while_go {c : Fe} {F : Fs} {n : Nat} {s s1 s2 : S} (h1 : c s = some (.bool true, s1)) (h2 : F s1 = some (.next, s2)) : whileF c F (n + 1) s = whileF c F n s2 := by
  conv => lhs; unfold whileF
  rw [h1, Option.bind_some]
  dsimp only
  rw [h2]
theorem while_stop {c : Fe} {F : Fs} {n : Nat} {s s1 : S} (h1 : c s = some (.bool false, s1)) : whileF c F (n + 1) s = some (.next, s1) := by
  unfold whileF
  rw [h1]
  rfl
/-! ranges -/
def rng (lo hi : Int) : List Int := (List.range (hi - lo).toNat).map fun (k : Nat) => lo + k
theorem mem_rng {lo hi x : Int} : x ∈ rng lo hi ↔ lo ≤ x ∧ x < hi := by
  unfold rng
  rw [List.mem_map]
  constructor
  · rintro ⟨k, hk, rfl⟩
    rw [List.mem_range] at hk
    omega
  · rintro ⟨h1, h2⟩
    exact ⟨(x - lo).toNat, List.mem_range.mpr (by omega), by omega⟩
theorem rangeL_eq (lo hi : Int) : rangeL lo hi = (rng lo hi).map .int := by
  unfold rangeL rng
  rw [List.map_map]
  rfl
theorem range1_ev {fa : Fa} {s s1 : S} {n : Int} (h : fa s = some ([.int n], s1)) (hn : -1000000 ≤ n ∧ n ≤ 1000000) : iterA range1D fa s = some ((rng 0 n).map .int, s1) := by
  unfold iterA
  rw [h, Option.bind_some]
  dsimp only
  unfold range1D
  dsimp only
  rw [if_pos hn, Option.map_some, rangeL_eq]
theorem range2_ev {fa : Fa} {s s1 : S} {m n : Int} (h : fa s = some ([.int m, .int n], s1)) (hn : -1000000 ≤ m ∧ m ≤ 1000000 ∧ -1000000 ≤ n ∧ n ≤ 1000000) : iterA range2D fa s = some ((rng m n).map .int, s1) := by
  unfold iterA
  rw [h, Option.bind_some]
  dsimp only
  unfold range2D
  dsimp only
  rw [if_pos hn, Option.map_some, rangeL_eq]
theorem rng_len (lo hi : Int) : (rng lo hi).length = (hi - lo).toNat := by unfold rng; simp
/-! builtins -/
theorem blsD_map {α : Type} (p : α → Bool) : ∀ xs : List α, blsD (xs.map fun x => .bool (p x)) = some (xs.map p)
  | [] => rfl
  | x :: xs => by show ((blsD (xs.map fun x => .bool (p x))).map (p x :: ·)) = _; rw [blsD_map p xs]; rfl
theorem allD_map {α : Type} (p : α → Bool) (xs : List α) : allD [.list (xs.map fun x => .bool (p x))] = some (.bool (xs.all p)) := by
  show (blsD (xs.map fun x => .bool (p x))).map (fun bs => PyData.bool (bs.all id)) = _
  rw [blsD_map, Option.map_some]
  simp [List.all_map, Function.comp_def]
theorem anyD_map {α : Type} (p : α → Bool) (xs : List α) : anyD [.list (xs.map fun x => .bool (p x))] = some (.bool (xs.any p)) := by
  show (blsD (xs.map fun x => .bool (p x))).map (fun bs => PyData.bool (bs.any id)) = _
  rw [blsD_map, Option.map_some]
  simp [List.any_map, Function.comp_def]
theorem intsD_map {α : Type} (p : α → Int) : ∀ xs : List α, intsD (xs.map fun x => .int (p x)) = some (xs.map p)
  | [] => rfl
  | x :: xs => by show ((intsD (xs.map fun x => .int (p x))).map (p x :: ·)) = _; rw [intsD_map p xs]; rfl
theorem while_upto {c : Fe} {F : Fs} {n m : Nat} (hm : n < m) (st : Nat → S) (go : ∀ k, k < n → c (st k) = some (.bool true, st k) ∧ F (st k) = some (.next, st (k + 1))) (stop : c (st n) = some (.bool false, st n)) : sWhile m c F (st 0) = some (.next, st n) := by
  have key : ∀ j k, k + j = n → whileF c F (m - k) (st k) = some (.next, st n) := by
    intro j
    induction j with
    | zero =>
      intro k hk
      have e : k = n := by omega
      subst e
      have e2 : m - k = (m - k - 1) + 1 := by omega
      rw [e2]
      exact while_stop stop
    | succ j ih =>
      intro k hk
      obtain ⟨h1, h2⟩ := go k (by omega)
      have e2 : m - k = (m - (k + 1)) + 1 := by omega
      rw [e2, while_go h1 h2]
      exact ih (k + 1) (by omega)
  exact key n 0 (by omega)
theorem foldl_flat {α β : Type} (f : α → List β) : ∀ (xs : List α) (acc : List β), xs.foldl (fun acc x => acc ++ f x) acc = acc ++ xs.flatMap f
  | [], acc => by simp
  | x :: xs, acc => by rw [List.foldl_cons, foldl_flat f xs, List.flatMap_cons, List.append_assoc]
theorem flat_len {α β : Type} {f : α → List β} {m : Nat} : ∀ {xs : List α}, (∀ x ∈ xs, (f x).length ≤ m) → (xs.flatMap f).length ≤ xs.length * m
  | [], _ => by simp
  | x :: xs, h => by
    rw [List.flatMap_cons, List.length_append, List.length_cons, Nat.succ_mul]
    have := h x List.mem_cons_self
    have := flat_len (xs := xs) fun y hy => h y (List.mem_cons_of_mem _ hy)
    omega
theorem mulD_ev {a b : Int} (h : (-(2 ^ 64) < a ∧ a < 2 ^ 64) ∨ (-(2 ^ 64) < b ∧ b < 2 ^ 64)) : mulD (.int a) (.int b) = some (.int (a * b)) := by
  show (if _ then some (PyData.int (a * b)) else none) = _
  rw [if_pos h]
end Fx
-- Fx21
namespace Fx
open PySem PySem.Spec L2
/-! ### calls where keyword-only parameters take their defaults (whole numbers) -/
/-- three lists put in the parameters' order -/
inductive Ord3 where
  | pmk | pkm
def Ord3.put {α : Type} : Ord3 → List α → List α → List α → List α
  | .pmk, us, mv, ws => us ++ mv ++ ws
  | .pkm, us, mv, ws => us ++ ws ++ mv
theorem Ord3.vals (o : Ord3) {vs mz zs : List V} {us mv ws : List Value} (h1 : Vals vs us) (h2 : Vals mz mv) (h3 : Vals zs ws) : Vals (o.put vs mz zs) (o.put us mv ws) := by
  have app : ∀ {a b : List V} {c d : List Value}, Vals a c → Vals b d → Vals (a ++ b) (c ++ d) := fun {a b c d} r1 r2 => by
    induction r1 with
    | nil => exact r2
    | cons r _ ih => exact .cons r ih
  cases o
  · exact app (app h1 h2) h3
  · exact app (app h1 h3) h2
theorem Ord3.reps (o : Ord3) {E : Ev} {A : Addr → Prop} {H : Hp} {vs mz zs : List V} {us mv ws : List D} (h1 : Reps E A H vs us) (h2 : Reps E A H mz mv) (h3 : Reps E A H zs ws) : Reps E A H (o.put vs mz zs) (o.put us mv ws) := by
  cases o
  · exact (h1.append h2).append h3
  · exact (h1.append h3).append h2
theorem Ord3.len (o : Ord3) {α : Type} (us mv ws : List α) : (o.put us mv ws).length = us.length + mv.length + ws.length := by
  cases o <;> simp [Ord3.put] <;> omega
/-- how such a call binds -/
def KBo (K : PySem.W.Frag) (fd : FuncData) (ps : List Str) (n : Nat) (ks : List Str) (o : Ord3) (ms : List Int) : Prop := ∃ gv, KBn K fd ps n ks gv (fun vs zs => o.put vs (ms.map V.int) zs)
def eFnN (n m : Nat) (o : Ord3) (ms : List Int) (g : List D → Option D) (fa fk : Fa) : Fe := fun s => (fa s).bind fun (xs, s1) => (fk s1).bind fun (ys, s2) => if xs.length = n ∧ ys.length = m then (g (o.put xs (ms.map .int) ys)).map fun z => (z, s2) else none
def eFnD (n : Nat) (ms : List Int) (g : List D → Option D) (fa : Fa) : Fe := fun s => (fa s).bind fun (xs, s1) => if xs.length = n then (g (xs ++ ms.map .int)).map fun z => (z, s1) else none
section
variable {X : Cx} {k n nn : Nat} {f : Addr} {fd : FuncData} {ps ks : List Str} {g : List D → Option D} {x : Str} {p pos kpos : Pos} {e : Expr} {es : List Expr} {kws : List Keyword} {fa fk : Fa} {o : Ord3} {ms : List Int}
theorem ve_fnN (F : FnOk X.prog X.w X.K X.mg X.base CX0 k f fd ps (spV (evX X) nn g)) (hr : Room k X.A) (hg : Gl X x) (hm : X.mg x = some (.ref f)) (hk : PySem.W.keepIn X.K (.ref f) = true) (hb : KBo X.K fd ps n ks o ms) (ha : VA X (e :: es) fa) (hw : VKw X kws fk) (hn : n + ms.length + ks.length = nn)
    (hall : (backToKw pos (keywordEach kws X.env)).all (·.1.isSome) = true := by rfl) (hks : (backToKw pos (keywordEach kws X.env)).filterMap (·.1) = ks := by rfl)
    (hdb : (x == ("__debug__" : Str)) = false := by decide +kernel) (he : starEach (e :: es) X.env = (false, eval e X.env) :: starEach es X.env := by rfl)
    (hpl : ((backTo pos (starEach (e :: es) X.env)).any (·.1) || (backToKw pos (keywordEach kws X.env)).any (·.1.isNone)) = false := by rfl) :
    VE X (.Call (.Name x p) (e :: es) kws pos) (eFnN n ks.length o ms g fa fk) := by
  obtain ⟨t, pa, sa⟩ := ha.ex
  obtain ⟨u, pk, sk⟩ := hw.ex
  obtain ⟨gv, hb⟩ := hb
  refine ⟨_, pe_callN F hr hg hm hk hb (pass0 (X := X)) pa pk hall hks hdb he hpl, ?_⟩
  intro G W σ H s d s' R hf Q hq
  unfold eFnN at hf
  simp only [Option.bind_eq_some_iff] at hf
  obtain ⟨⟨xs, s1⟩, h1, ⟨ys, s2⟩, h2, h3⟩ := hf
  dsimp only at h3
  split at h3
  · rename_i hl
    simp only [Option.map_eq_some_iff] at h3
    obtain ⟨z, h4, h5⟩ := h3
    cases h5
    refine sa G W σ H s xs s1 R h1 _ fun vs H1 R1 z1 p1 => ?_
    refine sk G W σ H1 s1 ys _ R1 h2 _ fun zs H2 R2 z2 p2 => ⟨by rw [p1.length]; exact hl.1, by rw [p2.length]; exact hl.2, ?_⟩
    refine ⟨Av G W, o.put xs (ms.map .int) ys, d, by rw [Ord3.len, hl.1, hl.2, List.length_map]; exact hn, o.reps (p1.fz z2) (reps_ints ms) p2, R2.fre, h4, fun v H3 sm p3 => ?_⟩
    exact hq v H3 (R2.same sm) ((z1.trans z2).trans (Fz.of_same sm)) p3
  · cases h3
/-- no keyword at all -/
theorem ve_fnD (F : FnOk X.prog X.w X.K X.mg X.base CX0 k f fd ps (spV (evX X) nn g)) (hr : Room k X.A) (hg : Gl X x) (hm : X.mg x = some (.ref f)) (hk : PySem.W.keepIn X.K (.ref f) = true) (hb : ∃ ds, Vals (ms.map V.int) ds ∧ Binds X.K fd ps ds) (ha : VA X (e :: es) fa) (hn : n + ms.length = nn) (hdb : (x == ("__debug__" : Str)) = false := by decide +kernel) (ns : NS X e es pos := by exact ⟨rfl, rfl⟩) :
    VE X (.Call (.Name x p) (e :: es) [] pos) (eFnD n ms g fa) := by
  obtain ⟨t, pa, sa⟩ := ha.ex
  obtain ⟨ds, hd, hb⟩ := hb
  refine ⟨_, pe_call F hr hg hm hk hb hd pass0 pa hdb ns.he ns.hpl, ?_⟩
  intro G W σ H s d s' R hf Q hq
  unfold eFnD at hf
  simp only [Option.bind_eq_some_iff] at hf
  obtain ⟨⟨xs, s1⟩, h1, h3⟩ := hf
  dsimp only at h3
  split at h3
  · rename_i hl
    simp only [Option.map_eq_some_iff] at h3
    obtain ⟨z, h4, h5⟩ := h3
    cases h5
    refine sa G W σ H s xs _ R h1 _ fun vs H1 R1 z1 p1 => ?_
    refine ⟨Av G W, xs ++ ms.map .int, d, by rw [List.length_append, List.length_map, hl]; exact hn, p1.append (reps_ints ms), R1.fre, h4, fun v H3 sm p3 => ?_⟩
    exact hq v H3 (R1.same sm) (z1.trans (Fz.of_same sm)) p3
  · cases h3
end
/-! facts about such a def -/
theorem kbo_of {K : PySem.W.Frag} {x qual : Str} {params : Arguments} {body : List Stmt} {scope : Scope} {kws : List (Str × V)} {f : Addr} {fd : FuncData} {ps : List Str} (F : FunD K x qual params body scope [] kws f fd) (n : Nat) (ks : List Str) (o : Ord3) (ms : List (Str × Int)) (hk : kws ≠ []) (hms : ∀ q ∈ ms, (q.1, V.int q.2) ∈ kws)
    (h : ∀ (D : Addr) (doc pm : Value) (an : Option Addr) (cdv ct : Value) (us mv ws : List Value), us.length = n → mv.length = (ms.map fun q => (q.1, V.int q.2)).length → ws.length = ks.length →
      KwChain D (((ms.map fun q => (q.1, V.int q.2)).map (·.1)).zip mv) (bindArgs (PySem.W.fnOf x qual params body scope .none (.ref D) doc pm an cdv ct) ⟨us, ks.zip ws⟩) (ps.zip (o.put us mv ws))) : KBo K fd ps n ks o (ms.map (·.2)) := by
  obtain ⟨mv, hb⟩ := FunD.kbinds0 (ps := ps) F n ks (ms.map fun q => (q.1, V.int q.2)) (fun {α} us mv ws => o.put us mv ws) hk (fun q hq => by
    obtain ⟨q', h1, rfl⟩ := List.mem_map.mp hq
    exact hms q' h1) (fun h1 h2 h3 => o.vals h1 h2 h3) h
  refine ⟨fun us ws => o.put us mv ws, ?_⟩
  have e : (ms.map (·.2)).map V.int = (ms.map fun q => (q.1, V.int q.2)).map (·.2) := by rw [List.map_map, List.map_map]; rfl
  rw [e]
  exact hb
end Fx
-- Fx22
namespace Fx
open PySem PySem.Spec L2
/-! ### isinstance(x, (S, T)) -/
def isi2D (S T : Ty) (d : D) : Option D := (isiB S d).bind fun b => if b = true then some (.bool true) else isiD T d
section
variable {X : Cx} {p p2 p3 p4 pos tpos : Pos} {e : Expr} {f : Fe} {k : Nat}
theorem ve_isi2 (S T : Ty) (hg : Gl X "isinstance") (hm : X.mg "isinstance" = none) (hgS : Gl X (nameT S)) (hmS : X.mg (nameT S) = none) (hgT : Gl X (nameT T)) (hmT : X.mg (nameT T) = none) (h : VE X e f) {x y : Str} (hx : x = nameT S := by rfl) (hy : y = nameT T := by rfl)
    (hv : bootBuiltins "isinstance" = some (.builtin "isinstance") := by decide +kernel) (hvS : bootBuiltins (nameT S) = some (.type S.name) := by decide +kernel) (hvT : bootBuiltins (nameT T) = some (.type T.name) := by decide +kernel)
    (hnS : nameT S ≠ "__name__" := by decide +kernel) (hdS : (nameT S == ("__debug__" : Str)) = false := by decide +kernel) (hn : nameT T ≠ "__name__" := by decide +kernel) (hd : (nameT T == ("__debug__" : Str)) = false := by decide +kernel)
    (ns : NS X e [.Tuple [.Name x p2, .Name y p3] k tpos] pos := by exact ⟨rfl, rfl⟩) (hs : starEach [.Tuple [.Name x p2, .Name y p3] k tpos] X.env = (false, eval (.Tuple [.Name x p2, .Name y p3] k tpos) X.env) :: starEach [] X.env := by rfl)
    (h1 : starEach [.Name x p2, .Name y p3] X.env = (false, eval (.Name x p2) X.env) :: starEach [.Name y p3] X.env := by rfl) (h2 : starEach [.Name y p3] X.env = (false, eval (.Name y p3) X.env) :: starEach [] X.env := by rfl) :
    VE X (.Call (.Name "isinstance" p) [e, .Tuple [.Name x p2, .Name y p3] k tpos] [] pos) (eUn (isi2D S T) f) := by
  subst hx hy
  obtain ⟨t, pe, sn⟩ := h.ex
  refine ⟨_, pe_callB call_isiT hg hm hv (pa_cons pe (pa_cons (pe_tup (pa_cons (pe_bltn (v := .ty S.name) hgS hmS hvS rfl hnS hdS) (pa_cons (pe_bltn (v := .ty T.name) hgT hmT hvT rfl hn hd) pa_nil h2) h1)) pa_nil hs) ns.he) (by decide) (by decide) ns.he ns.hpl, ?_⟩
  intro G W σ H s d s' R hf Q hq
  obtain ⟨x, h1, h2⟩ := eUn_some hf
  refine sn G W σ H s x s' R h1 _ fun v H1 R1 z1 p1 => ?_
  unfold isi2D at h2
  simp only [Option.bind_eq_some_iff] at h2
  obtain ⟨b, h3, h4⟩ := h2
  obtain ⟨n, e1, ty⟩ := p1.ty h3
  have k1 := kit_is S x e1 h3
  refine ⟨by show 2 ≤ sizeLine; rw [sizeLine_eq]; omega, fun q hn => ?_⟩
  have sm : Same H1 (upd H1 q (.tup [.ty S.name, .ty T.name])) := fun b o e => by rw [upd_ne (ne_of_none e hn)]; exact e
  have p2 := p1.fz (Fz.of_same sm)
  obtain ⟨n', e1', ty'⟩ := p2.ty h3
  rw [e1] at e1'; cases e1'
  cases b with
  | true =>
    cases h4
    exact ⟨v, q, [.ty S.name, .ty T.name], .type n, [.type S.name, .type T.name], true, rfl, upd_same, .cons (.ty _) (.cons (.ty _) .nil), ty', kitAny_cons (kit_ty k1) (fun z => nomatch z) fun _ => rfl, hq _ _ (R1.same sm) (z1.trans (Fz.of_same sm)) (.bl true)⟩
  | false =>
    unfold isiD at h4
    simp only [Bool.false_eq_true, if_false, Option.map_eq_some_iff] at h4
    obtain ⟨b, h5, rfl⟩ := h4
    have k2 := kit_is T x e1 h5
    exact ⟨v, q, [.ty S.name, .ty T.name], .type n, [.type S.name, .type T.name], b, rfl, upd_same, .cons (.ty _) (.cons (.ty _) .nil), ty', kitAny_cons (kit_ty k1) (fun _ => kitAny_cons (kit_ty k2) (fun z => by rw [z]; exact kitAny_nil) fun z => z) (fun z => nomatch z), hq _ _ (R1.same sm) (z1.trans (Fz.of_same sm)) (.bl b)⟩
end
/-! ### a def whose last parameter is () where it lacks -/
def eFnE (n : Nat) (g : List D → Option D) (fa : Fa) : Fe := fun s => (fa s).bind fun (xs, s1) => if xs.length = n then (g (xs ++ [.tuple []])).map fun z => (z, s1) else none
section
variable {X : Cx} {k n nn : Nat} {f a0 : Addr} {fd : FuncData} {ps : List Str} {g : List D → Option D} {x : Str} {p pos : Pos} {e : Expr} {es : List Expr} {fa : Fa}
theorem ve_fnE (F : FnOk X.prog X.w X.K X.mg X.base CX0 k f fd ps (spV (evX X) nn g)) (hr : Room k X.A) (hg : Gl X x) (hm : X.mg x = some (.ref f)) (hk : PySem.W.keepIn X.K (.ref f) = true) (hb : ∃ ds, Vals [V.ref a0] ds ∧ Binds X.K fd ps ds) (ht : KT0 X.K a0) (ha : VA X (e :: es) fa) (hn : n + 1 = nn) (hdb : (x == ("__debug__" : Str)) = false := by decide +kernel) (ns : NS X e es pos := by exact ⟨rfl, rfl⟩) :
    VE X (.Call (.Name x p) (e :: es) [] pos) (eFnE n g fa) := by
  obtain ⟨t, pa, sa⟩ := ha.ex
  obtain ⟨ds, hd, hb⟩ := hb
  refine ⟨_, pe_call F hr hg hm hk hb hd pass0 pa hdb ns.he ns.hpl, ?_⟩
  intro G W σ H s d s' R hf Q hq
  unfold eFnE at hf
  simp only [Option.bind_eq_some_iff] at hf
  obtain ⟨⟨xs, s1⟩, h1, h3⟩ := hf
  dsimp only at h3
  split at h3
  · rename_i hl
    simp only [Option.map_eq_some_iff] at h3
    obtain ⟨z, h4, h5⟩ := h3
    cases h5
    refine sa G W σ H s xs _ R h1 _ fun vs H1 R1 z1 p1 => ?_
    refine ⟨Av G W, xs ++ [.tuple []], d, by rw [List.length_append, hl]; exact hn, p1.append (.cons (.tup (.inr ⟨rfl, ht⟩) .nil) .nil), R1.fre, h4, fun v H3 sm p3 => ?_⟩
    exact hq v H3 (R1.same sm) (z1.trans (Fz.of_same sm)) p3
  · cases h3
end
section
variable {P : Program} {w : World} {K : PySem.W.Frag} {mg : Str → Option Value} {base : Heap} {x qual : Str} {st : Stmt} {f : Addr} {fd : FuncData} {N ps : List Str} {k : Nat} {Fb : Fs} {dvs : List V} {kws : List (Str × V)}
theorem fn_VD (F : FunD K x qual (defArgs st) (defBody st) (defScope st) dvs kws f fd) (S : FnScope N ps (defScope st)) (hb : BodyV P w K mg base N qual st f k Fb) : FnOk P w K mg base CX0 (k + 1) f fd ps (spV ⟨P, w, K⟩ ps.length (fnV N.length Fb)) := by
  refine F.ok (CX := CX0) S (fun vs H Q E h => spV_len vs H Q E h) fun cdv A outer s H vs Q E hr h => ?_
  obtain ⟨O, ds, d, hl, rs, fr, hg, hq⟩ := h
  obtain ⟨t, p, sn⟩ := (hb cdv A outer s H E hr).ex
  exact ⟨t, p.nox, sn ⟨H, O⟩ W0 _ H _ _ (rel0 rs fr (by rw [hl]; exact ps_le S)) (post0V hg hq)⟩
/-- such a def, from what stands -/
theorem funE_mk {a0 T : Addr} {oc : Value} {od an : Option Addr} {osl tsl : Array (Option Value)} {kV doc pm cdv ct tc : Value} {td : Option Addr} {tn : Nat} (l : K.lookup f = some ⟨oc, od, .func (PySem.W.fnOf x qual (defArgs st) (defBody st) (defScope st) (.ref T) kV doc pm an cdv ct), osl⟩)
    (c : PySem.W.codeIn K cdv qual = true) (hk : PySem.W.keepIn K (.ref f) = true) (lT : K.lookup T = some ⟨tc, td, .seq #[.ref a0] tn, tsl⟩) : FunD K x qual (defArgs st) (defBody st) (defScope st) [V.ref a0] [] f (PySem.W.fnOf x qual (defArgs st) (defBody st) (defScope st) (.ref T) kV doc pm an cdv ct) :=
  ⟨⟨oc, od, .ref T, kV, doc, pm, an, cdv, ct, osl, rfl, l, c, .inr ⟨(fun z => nomatch z), T, _, [.ref a0], tn, rfl, lT, rfl, .cons rfl .nil⟩, .inl rfl⟩, hk⟩
theorem binds_nil (h : ∃ ds, Vals ([] : List V) ds ∧ Binds K fd ps ds) : Binds K fd ps [] := by
  obtain ⟨ds, h1, h2⟩ := h
  cases h1
  exact h2
theorem kt0_mk {a0 : Addr} {od : Option Addr} {n : Nat} {sl : Array (Option Value)} (l : K.lookup a0 = some ⟨.type "tuple", od, .seq #[] n, sl⟩) : KT0 K a0 := ⟨_, _, _, l, rfl, rfl, Nat.zero_le _, .nil⟩
end
/-! ### d == {} -/
def emptyD : D → D → Option D
  | .dict kvs, .dict [] => some (.bool kvs.isEmpty)
  | _, _ => none
section
variable {prog : Program} {w : World} {A : Around} {E : Value → Shared → Prop} {s : Shared}
structure DObj (h : Heap) (a : Addr) (n : Nat) : Prop where
  ns : (a == sysModules) = false
  ex : ∃ o es ep, h.get? a = some o ∧ o.ExactDict ∧ o.data = .dict es ep ∧ es.size = n
theorem rc_empty {a b : Addr} {n : Nat} (ha : DObj s.heap a n) (hb : DObj s.heap b 0) (hu : A.units < cLine) (Q : Value → Shared → Prop) (h : Q (.bool (n == 0)) s) : wpAny (model prog w) A (richCompare .Eq (.ref a) (.ref b)) Q E s := by
  obtain ⟨na, oa, es, ep, ga, xa, da, rfl⟩ := ha
  obtain ⟨nb, ob, es', ep', gb, xb, db, hz⟩ := hb
  have ta : Shared.TypeIs s (.ref a) "dict" := ⟨_, ga, xa.1⟩
  have tb : Shared.TypeIs s (.ref b) "dict" := ⟨_, gb, xb.1⟩
  refine wpAny_richCompare_same_room (op := .Eq) ta tb PySem.F.slot_dict_eq (wpAny_call_entry PySem.F.slot_dict_eq ta PySem.F.entry_dict_eq ?_ (PySem.F.args_dict_eq_2 _ _)) hu
  show wpAny _ _ (Builtin.Dict.dictSlotArgs "__eq__" ⟨[.ref a, .ref b], []⟩ >>= _) _ _ s
  refine wpAny_bind ?_
  unfold Builtin.Dict.dictSlotArgs
  refine wpAny_bind (wpAny_notOrdered_dict ta ?_)
  refine wpAny_pure (wpAny_bind (wpAny_isInstance (T := "dict") tb PySem.F.sub_dict_dict ?_))
  rw [show (!true) = false from rfl, if_neg Bool.false_ne_true]
  refine wpAny_bind (wpAny_pure (wpAny_bind (wpAny_pure (wpAny_bind ?_))))
  have fin : ∀ c : Bool, c = (es.size == 0) → wpAny (model prog w) A.in1.in1 (pure (Value.bool c)) (fun r s' => r = .bool c ∧ s' = s) E s := fun c e => wpAny_pure ⟨rfl, rfl⟩
  unfold Builtin.Dict.samePairs Builtin.Dict.showsAll
  rw [na, nb]
  refine wpAny_bind (wpAny_pure (wpAny_bind (wpAny_pure (wpAny_bind (wpAny_dictEntries ga da ?_)))))
  refine wpAny_bind (wpAny_dictEntries gb db ?_)
  dsimp only
  by_cases hs : es.size = 0
  · rw [if_neg (by rw [hs, hz]; decide)]
    refine wpAny_bind (wpAny_dictEpoch ga da ?_)
    rw [Std.Legacy.Range.forIn_eq_forIn_range']
    simp only [Std.Legacy.Range.size, hs]
    refine wpAny_bind (wpAny_pure ?_)
    refine wpAny_pure ?_
    refine wpAny_pure ⟨_, rfl, (fun z => nomatch z), ?_⟩
    rw [hs] at h
    exact h
  · rw [if_pos (by simpa [hz] using hs)]
    have e : (es.size == 0) = false := by simpa using hs
    rw [e] at h
    refine wpAny_bind (wpAny_rule (wpAny_pure ?_))
    exact wpAny_pure ⟨_, rfl, (fun z => nomatch z), h⟩
end
def DLen (H : Hp) (a : Addr) (n : Nat) : Prop := (∃ kvs, Rd H a (.dT kvs) ∧ kvs.length = n) ∨ ∃ kvs, Rd H a (.dK kvs) ∧ kvs.length = n
theorem DLen.obj {P : Program} {w : World} {H : Hp} {h : Heap} {a : Addr} {n : Nat} (ok : HOk P w H h) (d : DLen H a n) : DObj h a n := by
  rcases d with ⟨kvs, e, rfl⟩ | ⟨kvs, e, rfl⟩
  · obtain ⟨z, y, xs, r, o, es, ep, h1, h2, h3, h4, _⟩ := dt_rd ok e
    refine ⟨y, o, es, ep, h1, h2, h3, ?_⟩
    have l1 := congrArg List.length h4
    rw [Array.length_toList, List.length_map] at l1
    rw [l1]
    exact r.length.symm
  · obtain ⟨z, y, vs, r, o, es, ep, h1, h2, h3, h4, h5, _⟩ := dk_rd ok e
    refine ⟨y, o, es, ep, h1, h2, h3, ?_⟩
    have l1 : es.toList.length = vs.length := h5.length
    rw [Array.length_toList] at l1
    rw [l1]
    exact r.length.symm
def rDE : R2 := fun x y H Q => ∃ a b n, x = .ref a ∧ y = .ref b ∧ DLen H a n ∧ DLen H b 0 ∧ Q (.bl (n == 0)) H
theorem op_dE {X : Cx} (hu : X.A.units + 1 < cLine) : OpR X (compareOp .Eq) rDE := by
  intro pins s σ H x y v u Q I rx ry h
  obtain ⟨a, b, n, rfl, rfl, da, db, q⟩ := h
  obtain rfl : v = Value.ref a := rx
  obtain rfl : u = Value.ref b := ry
  exact rc_empty (da.obj I.hok) (db.obj I.hok) (by omega) _ ⟨.bl (n == 0), H, I, rfl, q⟩
theorem entsT_len {E : Ev} {A : Addr → Prop} {H : Hp} : ∀ {xs : List (List Key × V)} {kvs : List (D × D)}, EntsT E A H xs kvs → xs.length = kvs.length
  | _, _, .nil => rfl
  | _, _, .cons _ _ t => congrArg Nat.succ (entsT_len t)
theorem entsK_len {E : Ev} {A : Addr → Prop} {H : Hp} : ∀ {xs : List (Key × V)} {kvs : List (D × D)}, EntsK E A H xs kvs → xs.length = kvs.length
  | _, _, .nil => rfl
  | _, _, .cons _ t => congrArg Nat.succ (entsK_len t)
theorem Rep.dlen {E : Ev} {A : Addr → Prop} {H : Hp} {v : V} {kvs : List (D × D)} (r : Rep E A H v (.dict kvs)) : ∃ a, v = .ref a ∧ DLen H a kvs.length := by
  cases r with
  | dt _ e t => exact ⟨_, rfl, .inl ⟨_, .inr ⟨_, e⟩, entsT_len t⟩⟩
  | dk _ e t _ => exact ⟨_, rfl, .inr ⟨_, .inr ⟨_, e⟩, entsK_len t⟩⟩
theorem sr_dE {E : Ev} : SndRS E rDE emptyD := by
  intro A H x y dx dy dz rx ry e Q hq
  unfold emptyD at e
  split at e
  · rename_i kvs
    cases e
    obtain ⟨a, rfl, da⟩ := rx.dlen
    obtain ⟨b, rfl, db⟩ := ry.dlen
    refine ⟨a, b, kvs.length, rfl, rfl, da, db, hq _ fun _ _ => ?_⟩
    have z : (kvs.length == 0) = kvs.isEmpty := by cases kvs <;> rfl
    rw [z]
    exact .bl _
  · cases e
section
variable {X : Cx} {a b : Expr} {f1 f2 : Fe} {pos : Pos}
theorem ve_empty (hu : X.A.units + 1 < cLine) (ha : VE X a f1) (hb : VE X b f2) : VE X (.Compare a [.Eq] [b] pos) (eBin emptyD f1 f2) := ve_cmp (op_dE hu) sr_dE.r ha hb
theorem vt_empty (hu : X.A.units + 1 < cLine) (ha : VE X a f1) (hb : VE X b f2) : VT X (.Compare a [.Eq] [b] pos) (eBin emptyD f1 f2) := vt_cmp (op_dE hu) sr_dE.r ha hb
end
end Fx
-- Fx23
namespace Fx
open PySem PySem.Spec L2
/-! ### own lists: xs[i] = e, xs[i] += n; True + True -/
theorem Reps.setAt {E : Ev} {A : Addr → Prop} {H : Hp} : ∀ {xs : List V} {ds : List D} {j : Nat} {v : V} {d : D}, Reps E A H xs ds → Rep E A H v d → Reps E A H (xs.set j v) (ds.set j d)
  | _, _, _, _, _, .nil, _ => .nil
  | _, _, 0, _, _, .cons _ t, r => .cons r t
  | _, _, j + 1, _, _, .cons a t, r => .cons a (Reps.setAt t r)
def sIxSet (i : Nat) (f g : Fe) : Fs := fun s => (g s).bind fun (z, s1) => (s1.ownL i).bind fun _ => (f s1).bind fun (y, s2) => (s2.ownL i).bind fun ds => match y with
  | .int k => (ixN ds.length k).bind fun j => some (.next, s2.put i (.own (.list (ds.set j z))))
  | _ => none
def sIxInc (i : Nat) (f : Fe) (m : Int) : Fs := fun s => (s.ownL i).bind fun _ => (f s).bind fun (y, s1) => (s1.ownL i).bind fun ds => match y with
  | .int k => (ixN ds.length k).bind fun j => match ds[j]? with
    | some (.int n) => some (.next, s1.put i (.own (.list (ds.set j (.int (n + m))))))
    | _ => none
  | _ => none
section
variable {X : Cx} {i : Nat} {x : Str} {b e : Expr} {f g : Fe} {p p3 pos p4 : Pos} {k0 : Nat}
theorem vs_ixSet (i : Nat) (nv : NV X i x) (hb : VE X b f) (he : VE X e g)
    (hs : swapsWithSole [.Subscript (.Name x p) b p3] e pos.line X.env = pure false := by rfl) (hw : swappedStores [.Subscript (.Name x p) b p3] e X.env = pure none := by rfl) (h1 : (assignEach [.Subscript (.Name x p) b p3] X.env).map (·.2) = [assign (.Subscript (.Name x p) b p3) X.env] := by rfl)
    (ha : ∀ v, assign (.Subscript (.Name x p) b p3) X.env v = (do
      let ov ← holding [v] (eval (.Name x p) X.env)
      let iv ← holding [v, ov] (eval b X.env)
      standAt p3
      holding [v, ov, iv] (setItem ov iv v)
      release [v, ov, iv] []) := by intro _; rfl) : VS X (.Assign [.Subscript (.Name x p) b p3] e pos) (sIxSet i f g) := by
  obtain ⟨t, pt, sn⟩ := he.ex
  obtain ⟨u, pu, su⟩ := hb.ex
  refine ⟨_, ps_asg pt (pg_sub (pe_var nv.hN nv.hv nv.hd nv.hcd) pu set_list ha) hs hw h1, fun G W σ H s Dn R po => ?_⟩
  unfold sIxSet at po
  match e0 : g s, po with
  | none, po => exact po.elim
  | some (z, s1), po =>
    dsimp only [Option.bind] at po
    match e1 : s1.ownL i, po with
    | none, po => exact po.elim
    | some ds0, po =>
      dsimp only [Option.bind] at po
      match e2 : f s1, po with
      | none, po => exact po.elim
      | some (y, s2), po =>
        dsimp only [Option.bind] at po
        match e3 : s2.ownL i, po with
        | none, po => exact po.elim
        | some ds, po =>
          dsimp only [Option.bind] at po
          split at po
          · rename_i k _
            cases e4 : ixN ds.length k with
            | none => rw [e4] at po; exact po.elim
            | some j =>
              rw [e4] at po
              refine sn G W σ H s _ s1 R e0 _ fun v1 H1 R1 z1 p1 => ?_
              obtain ⟨a, w1, w2, t0⟩ := R1.own i _ (ownL_some e1)
              refine ⟨_, w2, su G W σ H1 s1 _ s2 R1 e2 _ fun v2 H2 R2 z2 p2 => ?_⟩
              obtain ⟨a', w1', w2', xs, hx, hr⟩ := R2.own i _ (ownL_some e3)
              rw [w1] at w1'; cases w1'
              cases p2
              have av : Av G W a := .inr (.inl ⟨i, w1⟩)
              refine ⟨a, xs, k, j, rfl, rfl, hx, by rw [hr.length]; exact e4, ?_⟩
              exact po W σ _ (R2.turn (ownL_some e3) w1 ⟨_, upd_same, (hr.setAt (p1.fz z2)).fz (Fz.turn av)⟩) ((z1.trans z2).trans (Fz.turn av)) Wk.refl
          · exact po.elim
theorem get_list : PGet X (rIxL X.K) := by
  intro pins s σ H o i ov iv Q I ro ri h
  obtain ⟨q, xs, k, z, rfl, rfl, hq, he, qz⟩ := h
  cases ro
  obtain ⟨t, rfl⟩ := ri
  obtain ⟨its, r, pl, hz⟩ := I.list hq
  obtain ⟨j, h1, h2, h3, h4, h5⟩ := atI_get he
  obtain ⟨w, ew, rw'⟩ := r.get h2
  have hl := r.length
  have fin : EP X pins σ Q w s := ⟨z, H, I, rw', qz⟩
  by_cases h0 : 0 ≤ k
  · have hj : k.toNat = j := by
      rw [seqIndex_of h0 h5] at h1
      exact Option.some.inj h1
    have hn := line63
    exact wpAny_getItem_list pl.isList h0 (by omega) (by rw [hj]; simpa using ew) fin
  · have hj : (k + (its.toArray.size : Int)).toNat = j := by
      rw [seqIndex_neg (by omega) h4] at h1
      rw [List.size_toArray, ← hl]
      exact Option.some.inj h1
    have hn := line63
    exact wpAny_getItem_list_neg pl.isList (by omega) (by rw [List.size_toArray]; omega) (by omega) (by rw [hj]; simpa using ew) fin
theorem vs_ixInc (i : Nat) (nv : NV X i x) (hb : VE X b f) (m : Int) (ha : ∀ ov iv new, augStore b ov iv new = (do holding [new, ov, iv] (setItem ov iv new); release [new, ov, iv] []; pure .next) := by intros; rfl) :
    VS X (.AugAssign (.Subscript (.Name x p) b p3) .Add (.Constant (.int m) k0 p4) pos) (sIxInc i f m) := by
  obtain ⟨u, pu, su⟩ := hb.ex
  refine ⟨_, ps_augS (pe_var nv.hN nv.hv nv.hd nv.hcd) pu get_list pe_int ip_add set_list ha, fun G W σ H s Dn R po => ?_⟩
  unfold sIxInc at po
  match e1 : s.ownL i, po with
  | none, po => exact po.elim
  | some ds0, po =>
    dsimp only [Option.bind] at po
    match e2 : f s, po with
    | none, po => exact po.elim
    | some (y, s1), po =>
      dsimp only [Option.bind] at po
      match e3 : s1.ownL i, po with
      | none, po => exact po.elim
      | some ds, po =>
        dsimp only [Option.bind] at po
        split at po
        · rename_i k _
          cases e4 : ixN ds.length k with
          | none => rw [e4] at po; exact po.elim
          | some j =>
            rw [e4] at po
            dsimp only [Option.bind] at po
            split at po
            · rename_i n e5
              obtain ⟨a, w1, w2, t0⟩ := R.own i _ (ownL_some e1)
              refine ⟨_, w2, su G W σ H s _ s1 R e2 _ fun v2 H2 R2 z2 p2 => ?_⟩
              obtain ⟨a', w1', w2', xs, hx, hr⟩ := R2.own i _ (ownL_some e3)
              rw [w1] at w1'; cases w1'
              cases p2
              have av : Av G W a := .inr (.inl ⟨i, w1⟩)
              have e6 : atI ds k = some (.int n) := by unfold atI; rw [e4]; exact e5
              obtain ⟨q, h1, h2⟩ := hr.atI e6
              cases h2
              refine ⟨a, xs, k, .int n, rfl, rfl, SqL.of hx, h1, ?_⟩
              refine ⟨n, m, rfl, rfl, a, xs, k, j, rfl, rfl, hx, by rw [hr.length]; exact e4, ?_⟩
              exact po W σ _ (R2.turn (ownL_some e3) w1 ⟨_, upd_same, (hr.setAt (.int _)).fz (Fz.turn av)⟩) (z2.trans (Fz.turn av)) Wk.refl
            · exact po.elim
        · exact po.elim
/-- bools are added -/
def bI (b : Bool) : Int := if b = true then 1 else 0
def addB : D → D → Option D
  | .bool p, .bool q => some (.int (bI p + bI q))
  | _, _ => none
def rAddB : R2 := fun x y H Q => ∃ p q, x = .bl p ∧ y = .bl q ∧ Q (.int (bI p + bI q)) H
theorem op_addB : OpR X (binaryOp .Add) rAddB := by
  intro pins s σ H x y v u Q I rx ry h
  obtain ⟨p, q, rfl, rfl, hq⟩ := h
  cases rx
  cases ry
  exact PyProof.Rows.add_bool ⟨.int (bI p + bI q), H, I.tok _, ⟨_, rfl⟩, hq⟩
theorem sr_addB {E : Ev} : SndRS E rAddB addB := by
  intro A H x y dx dy dz rx ry e Q hq
  unfold addB at e
  split at e
  · cases e
    cases rx
    cases ry
    exact ⟨_, _, rfl, rfl, hq _ fun _ _ => .int _⟩
  · cases e
theorem ve_addB {f1 f2 : Fe} {a : Expr} (ha : VE X a f1) (hb : VE X b f2) : VE X (.BinOp a .Add b pos) (eBin addB f1 f2) := ve_op op_addB sr_addB.r ha hb
end
end Fx
-- Fx24
namespace Fx
open PySem PySem.Spec PyProof.Rows L2
/-! ### max of a tuple; max of three -/
section
variable {prog : Program} {w : World} {A : Around} {E : Value → Shared → Prop} {s : Shared}
theorem max_tup {l : Addr} {its : List Value} {ns : List Int} {Q : Value → Shared → Prop} (hh : A.handled = none) (hl : s.heap.IsTuple l its.toArray) (hi : IntsAre its ns) (hne : 0 < ns.length)
    (h : ∀ h' tk M t', (∀ b o, s.heap.get? b = some o → h'.get? b = some o) → M ∈ ns → (∀ a, a ∈ ns → a ≤ M) → Q (.int M t') { s with heap := h', toks := tk }) : wpAny (model prog w) A (call (.builtin "max") [.ref l]) Q E s := by
  obtain ⟨xs, e⟩ := hi.allInts.items
  have hn : numsOf (intItems xs).toList = ns := by rw [← e, hi.numsOf]
  rw [nums_intItems] at hn
  subst hn
  rw [e] at hl
  have hsz : 0 < xs.size := by simpa using hne
  have hlt : l < s.heap.objs.size := by
    obtain ⟨o, ho, _⟩ := hl
    exact Heap.lt_size ho
  refine call_max_walk (wpAny_pyIter_tuple hl ?_)
  refine ⟨_, [_, l], [_], _, _, _, _, rfl, Walks.tuple (A := A.in1) hh _ l (Nat.ne_of_lt hlt) (intItems xs), ⟨⟨_, Heap.get?_push_size _ rfl, rfl, rfl⟩, hl.push _⟩, fun c hc => ?_, by simpa [intItems] using hsz, CmpOf.ints_gt (numAt xs) (fun _ _ => intItems_at), fun v h' tk hP hk => ?_⟩
  · show c < (s.heap.push _).objs.size
    rw [Heap.size_push]
    rcases List.mem_cons.mp hc with rfl | hc
    · exact Nat.lt_succ_self _
    · rcases List.mem_cons.mp hc with rfl | hc
      · exact Nat.lt_succ_of_lt hlt
      · cases hc
  · have hz : (intItems xs).size = xs.size := by simp [intItems]
    rw [hz] at hP
    obtain ⟨t, rfl⟩ := intItems_at hP
    obtain ⟨h1, h2⟩ := argBest_gt (numAt xs) (xs.size - 1)
    refine h h' tk _ t (fun b o e => hk b o (fun hm => ?_) (Heap.get?_push_of_some _ e)) ?_ fun a ha => ?_
    · rcases List.mem_cons.mp hm with e1 | hm
      · have := Heap.lt_size e; rw [e1] at this; exact Nat.lt_irrefl _ this
      · cases hm
    · rw [numAt_eq]; exact PySem.getD_mem (by rw [List.length_map, Array.length_toList]; omega)
    · obtain ⟨j, hj, rfl⟩ := mem_getD ha
      rw [List.length_map, Array.length_toList] at hj
      rw [← numAt_eq]; exact h2 j (by omega)
end
def rMaxT (K : PySem.W.Frag) : List V → Hp → VK → Prop := fun vs H Q => ∃ (a : Addr) (ns : List Int), vs = [V.ref a] ∧ SqT K H a (ns.map V.int) ∧ 0 < ns.length ∧ ∀ m, m ∈ ns → (∀ y, y ∈ ns → y ≤ m) → Q (.int m) H
theorem cr_maxT {X : Cx} (hc : X.calm = true) : CallR X (.builtin "max") (rMaxT X.K) := by
  intro pins s σ H vs us Q I r h
  obtain ⟨a, ns, rfl, hs, hne, q⟩ := h
  obtain ⟨its, rv, hl, _⟩ := I.tuple hs
  rw [Vals.ref1 r]
  exact max_tup (I.ok.hd hc) hl rv.ints hne fun h' tk m t' hk h1 h2 => ⟨.int _, H, I.kept hk, ⟨_, rfl⟩, q m h1 h2⟩
def maxTD : List D → Option D
  | [.tuple xs] => (intsD xs).bind fun ns => if ns = [] then none else some (.int (maxI ns))
  | _ => none
def max3D : List D → Option D
  | [.int i, .int j, .int k] => some (.int (if k > (if j > i then j else i) then k else (if j > i then j else i)))
  | _ => none
section
variable {X : Cx} {p pos : Pos} {e : Expr} {es : List Expr} {fa : Fa}
theorem one_tup {E : Ev} {A : Addr → Prop} {H : Hp} {xs : List V} {ds : List D} (r : Reps E A H xs [.tuple ds]) : ∃ a vs, xs = [.ref a] ∧ TupAt E.K A H a vs ∧ Reps E A H vs ds := by
  cases r with
  | cons r t =>
    cases t
    cases r with
    | tup h r => exact ⟨_, _, rfl, h, r⟩
theorem ve_maxT (hc : X.calm = true) (hg : Gl X "max") (hm : X.mg "max" = none) (ha : VA X (e :: es) fa) (hv : bootBuiltins "max" = some (.builtin "max") := by decide +kernel) (ns : NS X e es pos := by exact ⟨rfl, rfl⟩) : VE X (.Call (.Name "max" p) (e :: es) [] pos) (eCall maxTD fa) := by
  refine ve_callB (cr_maxT hc) (SndCS.c ?_) hg hm hv ha (ns := ns)
  intro A H xs ds d rx e Q hq
  unfold maxTD at e
  split at e
  · rename_i ys
    simp only [Option.bind_eq_some_iff] at e
    obtain ⟨ns, h1, h2⟩ := e
    split at h2
    · cases h2
    · rename_i hne
      cases h2
      obtain ⟨a, vs, rfl, e1, r1⟩ := one_tup rx
      rw [intsD_eq h1] at r1
      rw [r1.ints] at e1
      refine ⟨a, ns, rfl, e1.sqt, List.length_pos_iff.mpr hne, fun m hm hle => ?_⟩
      have q := maxI_is hne
      have e2 : m = maxI ns := Int.le_antisymm (q.2 m hm) (hle _ q.1)
      rw [e2]
      exact hq _ fun _ _ => .int _
  · cases e
theorem three_of {E : Ev} {A : Addr → Prop} {H : Hp} {xs : List V} {i j k : Int} (r : Reps E A H xs [.int i, .int j, .int k]) : xs = [.int i, .int j, .int k] := by
  cases r with
  | cons r1 t =>
    cases t with
    | cons r2 t =>
      cases t with
      | cons r3 t =>
        cases t
        cases r1
        cases r2
        cases r3
        rfl
theorem nu3 (i j k : Int) : nuMax3 (.int i) (.int j) (.int k) = some (.int (if k > (if j > i then j else i) then k else (if j > i then j else i))) := by
  have h2 : ∀ a c : Int, nuMax2 (.int a) (.int c) = some (.int (if c > a then c else a)) := fun a c => by
    show some (if decide (a < c) = true then V.int c else V.int a) = _
    by_cases h : a < c
    · rw [if_pos (decide_eq_true h), if_pos h]
    · rw [if_neg (by simpa using h), if_neg h]
  unfold nuMax3
  rw [h2, Option.bind_some, h2]
theorem ve_max3 (hc : X.calm = true) (hg : Gl X "max") (hm : X.mg "max" = none) (ha : VA X (e :: es) fa) (hv : bootBuiltins "max" = some (.builtin "max") := by decide +kernel) (ns : NS X e es pos := by exact ⟨rfl, rfl⟩) : VE X (.Call (.Name "max" p) (e :: es) [] pos) (eCall max3D fa) := by
  refine ve_callB (call_max3Nu hc) (SndCS.c ?_) hg hm hv ha (ns := ns)
  intro A H xs ds d rx e Q hq
  unfold max3D at e
  split at e
  · cases e
    rw [three_of rx]
    exact ⟨_, _, _, _, rfl, nu3 _ _ _, hq _ fun _ _ => .int _⟩
  · cases e
end
end Fx
-- Fx25
namespace Fx
open PySem PySem.Spec PyProof.Rows L2
/-! ### {x: c} whose key is a tuple; xs.index(n) -/
def tDisp1 (tk tv : TE) : TE := fun σ H Q => ∀ p, H p = none → tk σ (upd H p (.dT [])) fun y H1 => tv σ H1 fun z H2 => H2 p = some (.dT []) ∧ ∃ (b : Addr) (ks : List Key), y = .ref b ∧ H2 b = some (.tup (ks.map kV)) ∧ Q (.ref p) (upd H2 p (.dT [(ks, z)]))
section
variable {X : Cx} {k v : Expr} {tk tv : TE} {pos : Pos}
theorem pe_disp1 (hu : X.A.units < cLine) (hk : PE X k tk) (hv : PE X v tv) : PE X (.Dict [some k] [v] pos) (tDisp1 tk tv) := by
  refine ⟨fun pins s σ H Q I q => ?_⟩
  have hn := I.hok.fresh (Nat.le_refl s.heap.objs.size)
  have I1 := I.laid (a := s.heap.objs.size) (o := .dT []) (h' := s.heap.push { cls := .type "dict", data := .dict #[] }) (t' := s.toks) (fun _ _ q => Heap.get?_push_of_some _ q) (Nat.le_refl _) (dt_empty s.heap I.big)
  have sh : (evalEachOpt [some k] X.env).zip ((evalEach [v] X.env).map fun v => do let x ← v; standAt pos; pure x) = [(eval k X.env, do let x ← eval v X.env; standAt pos; pure x)].map fun p => (some p.1, p.2) := rfl
  rw [arm_eval_Dict, sh, dictDisplay_pairs _ (by simp) (by simp)]
  refine wpAny_bind (wpAny_standAt (wpAny_bind ?_))
  unfold subDict
  refine wpAny_bind (wpAny_alloc (wpAny_bind (wpAny_holding ?_)))
  rw [if_pos (by simp)]
  refine wpAny_bind (evalPairs_cons (thn (hk.run pins _ σ _ _ I1 (q _ hn)) fun u s2 ⟨y, H1, I2, ry, q1⟩ => wpAny_bind (thn (hv.run pins s2 σ H1 _ I2 q1) fun r s3 ⟨z, H2, I3, rz, q2⟩ => wpAny_bind (wpAny_standAt (wpAny_pure (evalPairs_nil ?_))))))
  obtain ⟨e, b, ks, rfl, eb, q3⟩ := q2
  cases (show u = Value.ref b from ry)
  refine wpAny_holding ?_
  rw [List.forIn_cons]
  obtain ⟨_, hd, xs, rel, dd⟩ := dt_of I3.hok e
  cases rel
  refine wpAny_bind (wpAny_bind (wpAny_bind (wpAny_dictSet_heap (hsz := Nat.zero_le _) (show (tupleKind (mixKind X.prog X.w)).room X.A from hu) (key_of I3.hok eb) dd fun h' dd' hs => wpAny_pure ?_)))
  dsimp only
  rw [List.forIn_nil]
  refine wpAny_pure (wpAny_pure (wpAny_pure (wpAny_pure ⟨.ref s.heap.objs.size, _, ?_, rfl, q3⟩)))
  obtain ⟨oq, es, ep, hq, h2, h3, h4, _, h5⟩ := dd'
  refine d_write I3 (by rw [e]; exact True.intro) hs ⟨oq, hq⟩ ⟨by rw [sizeLine_eq]; simp, hd, _, .cons ⟨rfl, ?_, rz⟩ .nil, oq, es, ep, hq, h2, h3, h4, h5⟩
  rw [upd_ne (ne_of eb e (fun z => nomatch z))]
  exact eb
end
def eDisp1 (i : Nat) (c : D) : Fe := fun s => match s.rho[i]? with
  | some (.val d) => match keyY d with
    | some (.t ks) => some (.dict [(.tuple (ks.map keyD), c)], s)
    | _ => none
  | _ => none
def idxD : D → D → Option D
  | .list ds, .int n => (intsD ds).bind fun ns => if n ∈ ns then some (.int (ns.idxOf n : Nat)) else none
  | _, _ => none
section
variable {X : Cx} {x : Str} {i : Nat} {v o e : Expr} {p' pos apos cpos : Pos} {f1 f2 : Fe}
theorem vf_disp1 (i : Nat) (nv : NV X i x) (hu : X.A.units + 1 < cLine) {w : V} {c : D} (hv : PE X v (tC w)) (hc : ∀ B H', Rep (evX X) B H' w c) : VF X (.Dict [some (.Name x p')] [v] pos) (eDisp1 i c) := by
  refine ⟨_, pe_disp1 (by omega) (pe_var nv.hN nv.hv nv.hd nv.hcd) hv, fun G W σ H s d s' R hf Q hq => ?_⟩
  unfold eDisp1 at hf
  split at hf
  · rename_i d0 e0
    split at hf
    · rename_i ks e1
      cases hf
      intro p hn
      obtain ⟨u, e2, r⟩ := R.val i d0 e0
      obtain ⟨b, rfl, eb, hne⟩ := r.keyT e1
      refine ⟨_, e2, upd_same, b, ks, rfl, by rw [upd_ne (ne_of_none eb hn)]; exact eb, ?_⟩
      rw [upd_upd]
      exact hq p _ hn (R.laid hn) (Fz.laid hn G W) (.inl ⟨_, upd_same, .cons hne (hc _ _) .nil⟩)
    · cases hf
  · cases hf
theorem ve_index (ho : VE X o f1) (he : VE X e f2) (nm : NM X o "index" e [] apos cpos) : VE X (.Call (.Attribute o "index" apos) [e] [] cpos) (eBin idxD f1 f2) := by
  obtain ⟨ta, pa, sa⟩ := ho.ex
  obtain ⟨tb, pb, sb⟩ := he.ex
  refine ⟨_, pe_bm PySem.F.plainAttrs_list PySem.F.slot_list_index PySem.F.type_list_index mt_index pa (pa_cons pb pa_nil nm.hs) nm.hbase nm.hfew nm.hline nm.hs nm.hplain, ?_⟩
  intro G W σ H s d s' R hf Q hq
  obtain ⟨x, s1, y, h1, h2, h3⟩ := eBin_some hf
  unfold idxD at h3
  split at h3
  · rename_i ds n
    simp only [Option.bind_eq_some_iff] at h3
    obtain ⟨ns, h4, h5⟩ := h3
    split at h5
    · rename_i hm
      cases h5
      refine sa G W σ H s _ s1 R h1 _ fun v1 H1 R1 z1 p1 => ?_
      cases p1 with
      | lst n1 e1 r1 =>
        rename_i a xs
        refine ⟨.inl ⟨rfl, _, SqL.of e1⟩, sb G W σ H1 s1 _ s' R1 h2 _ fun v2 H2 R2 z2 p2 => ?_⟩
        cases p2
        have e2 := (z2 _ _ n1 e1).2
        rw [intsD_eq h4] at r1
        have ex := r1.ints
        subst ex
        have hi : ns.idxOf n < ns.length := List.idxOf_lt_length_of_mem hm
        refine ⟨a, ns.map V.int, .int n, ns.idxOf n, .int n, rfl, rfl, SqL.of e2, rfl, ?_, ?_, ?_, fun m z' hlt hz => ?_, hq _ H2 R2 (z1.trans z2) (.int _)⟩
        · rw [List.all_map, List.all_eq_true]
          exact fun _ _ => rfl
        · rw [List.getElem?_map, List.getElem?_eq_getElem hi, List.getElem_idxOf]
          rfl
        · show (n == n) = true
          simp
        · have hm' : m < ns.length := by omega
          rw [List.getElem?_map, List.getElem?_eq_getElem hm', Option.map_some] at hz
          cases hz
          show (ns[m] == n) = false
          have := List.not_of_lt_findIdx (p := (· == n)) (xs := ns) (i := m) hlt
          simpa using this
    · cases h5
  · cases h3
end
end Fx
-- Fx26
namespace Fx
open PySem PySem.Spec PyProof.Rows L2
/-! ### {e: c} whose key is any expression that gives a tuple -/
def NoRaw (o : HO) : Prop := ∀ xs, o ≠ .dT xs
section
variable {E : Ev} {A B : Addr → Prop} {H H' : Hp}
/-- as Fz, but for raw dicts -/
def Fy (A B : Addr → Prop) (H H' : Hp) : Prop := ∀ a o, ¬ A a → H a = some o → NoRaw o → ¬ B a ∧ H' a = some o
theorem TupAt.fy {K : PySem.W.Frag} {a : Addr} {xs : List V} (f : Fy A B H H') (h : TupAt K A H a xs) : TupAt K B H' a xs := by
  rcases h with h | h
  · exact .inl (f _ _ h.1 h.2 fun _ z => nomatch z)
  · exact .inr h
mutual
theorem Rep.fy (f : Fy A B H H') : ∀ {v : V} {d : D}, Rep E A H v d → Rep E B H' v d
  | _, _, .non => .non
  | _, _, .bl b => .bl b
  | _, _, .int i => .int i
  | _, _, .str x => .str x
  | _, _, .tup h r => .tup (TupAt.fy f h) (Reps.fy f r)
  | _, _, .lst h e r => .lst (f _ _ h e (fun _ z => nomatch z)).1 (f _ _ h e (fun _ z => nomatch z)).2 (Reps.fy f r)
  | _, _, .dt h e r => .dt (f _ _ h e (fun _ z => nomatch z)).1 (f _ _ h e (fun _ z => nomatch z)).2 (EntsT.fy f r)
  | _, _, .dk h e r n => .dk (f _ _ h e (fun _ z => nomatch z)).1 (f _ _ h e (fun _ z => nomatch z)).2 (EntsK.fy f r) n
theorem Reps.fy (f : Fy A B H H') : ∀ {vs : List V} {ds : List D}, Reps E A H vs ds → Reps E B H' vs ds
  | _, _, .nil => .nil
  | _, _, .cons r t => .cons (Rep.fy f r) (Reps.fy f t)
theorem EntsT.fy (f : Fy A B H H') : ∀ {xs : List (List Key × V)} {kvs : List (D × D)}, EntsT E A H xs kvs → EntsT E B H' xs kvs
  | _, _, .nil => .nil
  | _, _, .cons n r t => .cons n (Rep.fy f r) (EntsT.fy f t)
theorem EntsK.fy (f : Fy A B H H') : ∀ {xs : List (Key × V)} {kvs : List (D × D)}, EntsK E A H xs kvs → EntsK E B H' xs kvs
  | _, _, .nil => .nil
  | _, _, .cons r t => .cons (Rep.fy f r) (EntsK.fy f t)
end
theorem Top.fy {a : Addr} {d : D} (f : Fy A B H H') (e : ∀ o, H a = some o → H' a = some o) (t : Top E A H a d) : Top E B H' a d := by
  cases d with
  | list ds => obtain ⟨xs, h, r⟩ := t; exact ⟨xs, e _ h, r.fy f⟩
  | dict kvs =>
    rcases t with ⟨xs, h, r⟩ | ⟨xs, h, r, z⟩
    · exact .inl ⟨xs, e _ h, r.fy f⟩
    · exact .inr ⟨xs, e _ h, r.fy f, z⟩
  | _ => exact t
/-- a raw dict that nothing speaks of is barred, and changed -/
theorem Rel.barD {G : Cfg} {W : Wt} {σ : L2.St} {s : S} {p : Addr} {xs : List (List Key × V)} {o : HO} (r : Rel E G W H σ s) (na : ¬ Av G W p) (h0 : G.H0 p = none) (hp : H p = some (.dT xs)) (hnt : NT o) : Rel E (G.bar p) W (upd H p o) σ s := by
  have k : ∀ a u, a ≠ p → H a = some u → (upd H p o) a = some u := fun a u n e => by rw [upd_ne n]; exact e
  have f : Fy (Av G W) (Av (G.bar p) W) H (upd H p o) := fun a u n e nr => by
    have ne : a ≠ p := fun z => by subst z; rw [hp] at e; cases e; exact nr xs rfl
    exact ⟨fun
      | .inl (.inl z) => n (.inl z)
      | .inl (.inr z) => ne z
      | .inr z => n (.inr z), k a u ne e⟩
  exact {
    len := r.len
    fr := fun a u e t => k a u (fun z => by subst z; have e2 : G.H0 a = some u := e; rw [h0] at e2; cases e2) (r.fr a u e t)
    val := fun i d e => let ⟨v, e1, q⟩ := r.val i d e; ⟨v, e1, q.fy f⟩
    own := fun i d e => let ⟨a, e1, e2, q⟩ := r.own i d e; ⟨a, e1, e2, q.fy f fun u => k a u fun z => by subst z; exact na (.inr (.inl ⟨i, e1⟩))⟩
    dom := fun i a e => by
      obtain ⟨h1, h2, h3, h4⟩ := r.dom i a e
      refine ⟨h1, h2, ?_, h4⟩
      rintro (z | z)
      · exact h3 z
      · subst z; exact na (.inr (.inl ⟨i, e⟩))
    inj := r.inj
    obj := fun a => fun
      | .inl z => let ⟨u, e, q⟩ := r.obj a z; ⟨u, k a u (fun y => by subst y; exact na (.inl z)) e, q⟩
      | .inr z => ⟨o, by rw [z]; exact upd_same, hnt⟩
    tow := r.tow.same fun a u t => k a u fun z => by subst z; exact na (.inr (.inr t))
    tnc := r.tnc
    rwc := r.rwc
    noc := r.noc }
end
def eDisp (f : Fe) (c : D) : Fe := fun s => (f s).bind fun (d, s1) => match keyY d with
  | some (.t ks) => some (.dict [(.tuple (ks.map keyD), c)], s1)
  | _ => none
theorem vf_disp {X : Cx} {k v : Expr} {pos : Pos} {f : Fe} (hk : VE X k f) (hu : X.A.units + 1 < cLine) {w : V} {c : D} (hv : PE X v (tC w)) (hc : ∀ B H', Rep (evX X) B H' w c) : VF X (.Dict [some k] [v] pos) (eDisp f c) := by
  obtain ⟨t, pk, sk⟩ := hk.ex
  refine ⟨_, pe_disp1 (by omega) pk hv, fun G W σ H s d s' R hf Q hq => ?_⟩
  unfold eDisp at hf
  rw [Option.bind_eq_some_iff] at hf
  obtain ⟨⟨d0, s1⟩, e0, hf⟩ := hf
  dsimp only at hf
  split at hf
  · rename_i ks e1
    cases hf
    intro p hn
    have ks0 : ∀ b o, H b = some o → (upd H p (.dT [])) b = some o := fun b o e => by rw [upd_ne (ne_of_none e hn)]; exact e
    have na : ¬ Av G W p := R.free hn
    refine sk G W σ (upd H p (.dT [])) s d0 _ (R.keeps ks0) e0 _ fun y H1 R1 z1 p1 => ?_
    have hp := (z1 p _ na upd_same).2
    obtain ⟨b, rfl, eb, hne⟩ := p1.keyT e1
    refine ⟨hp, b, ks, rfl, eb, ?_⟩
    have nt : NT (.dT [(ks, w)]) := fun _ z => nomatch z
    refine hq p _ hn (R1.barD na (R.fresh0 hn) hp nt) (fun a o n e => ?_) (.inl ⟨_, upd_same, .cons hne (hc _ _) .nil⟩)
    have ne : a ≠ p := ne_of_none e hn
    obtain ⟨n2, e2⟩ := z1 a o n (ks0 a o e)
    exact ⟨fun
      | .inl (.inl z) => n (.inl z)
      | .inl (.inr z) => ne z
      | .inr z => n (.inr z), by rw [upd_ne ne]; exact e2⟩
  · cases hf
end Fx
-- Fset3
namespace Fx
open PySem PySem.Spec PyProof.Rows L2
/-! ### sorted({..}), a set comprehension of ints -/
def SetIO (w : World) (a : Addr) (S : Int → Bool) (n : Nat) : HO := .ext fun h => SetR w h a S n
theorem setIO_new {w : World} {P : Program} {H : Hp} {h : Heap} {a : Addr} {S : Int → Bool} {n : Nat} (R : SetR w h a S n) : ObjOk P w H h a (SetIO w a S n) := by
  have ⟨o, _, _, _, ho, _⟩ := R
  exact ⟨R, ⟨o, ho⟩, fun h1 h2 p k => SetR.at p k⟩
theorem setIO_get {X : Cx} {pins : List (Addr × Obj)} {σ : L2.St} {H : Hp} {s : Shared} {a : Addr} {S : Int → Bool} {n : Nat} (I : Inv X pins σ H s) (ha : H a = some (SetIO X.w a S n)) : SetR X.w s.heap a S n := (I.hok a _ ha).1
theorem addI_ok {X : Cx} {pins : List (Addr × Obj)} {σ : L2.St} {H : Hp} {s : Shared} {E : Value → Shared → Prop} {D : Addr} {S : Int → Bool} {n : Nat} {y : Int} {tk : Tok} {Q : Value → Shared → Prop} (I : Inv X pins σ H s) (hD : H D = some (SetIO X.w D S n)) (room : n + 1 < scanBound)
    (h : ∀ s', Inv X pins σ (upd H D (SetIO X.w D (fun j => S j || decide (j = y)) (if S y = true then n else n + 1))) s' → Q .none s') : wpAny (model X.prog X.w) X.A (call (.builtin "set.add") [.ref D, .int y tk]) Q E s := by
  have R := setIO_get I hD
  refine setR_add R room fun h' sb new => ?_
  have he : ∃ u, h'.get? D = some u := by
    have ⟨o, _, _, _, ho, _⟩ := new
    exact ⟨o, ho⟩
  exact h _ (I.write (e := D) (t' := s.toks + 1) (by rw [hD]; trivial) (.inl rfl) (fun b u hb hu => (sb.2 b hb).trans hu) he (setIO_new new))
theorem pl_emitS {Y : Cx} {e : Expr} {gens : List Comprehension} {d : Nat} {elt : Expr} {te : TE} {D : Addr} (hx : Y.xe = FF) (hd : gens[d]? = none) (he : PE Y elt te) : PL Y e gens (emitS elt) (.ref D) d (fun σ H Nx => te σ H fun y H1 => ∃ k S n, y = .int k ∧ H1 D = some (SetIO Y.w D S n) ∧ n + 1 < scanBound ∧ Nx (upd H1 D (SetIO Y.w D (fun j => S j || decide (j = k)) (if S k = true then n else n + 1)))) := by
  intro pins s σ H Nx k Q I h hk
  unfold innerC emitS
  rw [hd]
  have h2 := he.run pins s σ H _ I h
  rw [hx] at h2
  refine wpAny_bind (wpAny_bind (thn h2 fun v s1 ⟨y, H1, I1, r1, k', S, n, ey, hD, hz, nx⟩ => ?_))
  subst ey
  obtain ⟨tk, rfl⟩ := r1
  exact wpAny_bind (wpAny_standAt (wpAny_bind (addI_ok I1 hD hz fun s2 I2 => wpAny_pure (hk s2 _ I2 nx))))
def tCompS (w : World) (wi : TI) (g : Blk → TG) (tt : Blk → TT) (t : Blk → Addr → L2.St → Hp → (Hp → Prop) → Prop) (vs : List Nat) : TE := fun σ H Q => wi σ H fun J H1 => ∀ p, H1 p = none → ∀ b, tTurns J (g b) (tt b) (t b p) vs σ (upd H1 p (SetIO w p (fun _ => false) 0)) (fun H' => Q (.ref p) H')
theorem comp_coreS {X : Cx} {pins : List (Addr × Obj)} {s : Shared} {σ : L2.St} {H : Hp} {Q : VK} {e tg iter : Expr} {ifs : List Expr} {rest : List Comprehension} {emit : Value → Env → Sem Unit} {scope : Scope} {own : List (Str × Nat)} {pos' : Pos} {wi : TI} {g : Blk → TG} {tt : Blk → TT} {t : Blk → Addr → L2.St → Hp → (Hp → Prop) → Prop} {use : Option (Value → Sem Unit)} {Qf : Value → Shared → Prop}
    (c : CmpK e (⟨tg, iter, ifs, 0⟩ :: rest) emit) (hc : X.calm = true) (hN : X.N.Nodup) (I : Inv X pins σ H s) (hi : PI X tg iter wi) (ok : BlkOk X.N X.env.scope scope own)
    (hg : AtBlk X scope fun b Y => PG Y tg (g b)) (ht : AtBlk X scope fun b Y => PTs Y ifs (tt b)) (hr : AtBlk X scope fun b Y => ∀ p, PL Y e (⟨tg, iter, ifs, 0⟩ :: rest) emit (.ref p) 1 (t b p)) (hs : ∀ x, foldedSetIterable iter X.env x = pure x)
    (h : tCompS X.w wi g tt t (own.map (·.2)) σ H Q)
    (hRR : ∀ p C s' m H', Inv X pins σ H' s' → Q (.ref p) H' → s'.heap.Ns C m → FpOk X pins H' C → compPost (model X.prog X.w) X.A X.xe use Qf (.ref p) C (.ok .next) s') :
    wpAny (model X.prog X.w) X.A (comprehension e scope X.env pos' (newSet (.type "set")) false (eval iter X.env) use) Qf X.xe s := by
  have captured : ∀ y ∈ scope.names, y.2 = .free → ∃ k, X.env.cells.lookup y.1 = some k := fun y hy q =>
    (ok.free y hy q).elim (fun z => I.ok.has _ (.inl z)) fun z => I.ok.has _ (.inr z)
  refine wpAny_comprehension_free (use := use) c.cl hs (closure_ok captured) ok.kind (fun y hy q => by rw [ok.uniq y hy, q]) (thn (hi.run pins s σ H _ I h) fun _ s1 h1 => thn h1 fun itv s2 h2 => ?_)
  obtain ⟨it, fp, tn, J, H2, e2, I2, T, st2, f2, q⟩ := h2
  subst e2
  refine PpSet.newSet_ok (newEnv_comp ?_)
  generalize hp : s2.heap.objs.size = p
  have fresh : H2 p = none := I2.hok.fresh (Nat.le_of_eq hp)
  generalize hs3 : ({ s2 with heap := s2.heap.push { cls := .type "set", dict := none, data := .set #[] 0 (.fresh 0 0 (!X.w.params.followText "set-order")) } } : Shared) = s3
  have heap3 : s3.heap = s2.heap.push { cls := .type "set", dict := none, data := .set #[] 0 (.fresh 0 0 (!X.w.params.followText "set-order")) } := by rw [← hs3]
  have at3 : s3.heap.get? p = some { cls := .type "set", dict := none, data := .set #[] 0 (.fresh 0 0 (!X.w.params.followText "set-order")) } := by rw [heap3, ← hp]; exact Heap.get?_push_size _ rfl
  have I3 : Inv X pins σ (upd H2 p (SetIO X.w p (fun _ => false) 0)) s3 := by
    rw [← hs3]
    exact I2.laid (t' := s2.toks) (fun _ _ => Heap.get?_push_of_some _) (Nat.le_of_eq hp) (setIO_new (by rw [← hp]; exact setR_fresh X.w))
  have below : ∀ b ∈ fp, b < s2.heap.objs.size := fun b hb => let ⟨_, q, _⟩ := T.obj _ _ st2 b hb; Heap.lt_size q
  have f3 : ∀ b ∈ fp, FpOk X pins (upd H2 p (SetIO X.w p (fun _ => false) 0)) b ∧ b < s3.heap.objs.size := fun b hb =>
    ⟨⟨by rw [upd_ne (by rw [← hp]; exact Nat.ne_of_lt (below b hb))]; exact (f2 b hb).1, (f2 b hb).2⟩, by rw [heap3, Heap.size_push]; exact Nat.lt_succ_of_lt (below b hb)⟩
  have st3 : tn 0 s3.heap := T.keep _ _ _ st2 fun b _ o q => by rw [heap3]; exact Heap.get?_push_of_some _ q
  have I4 := block_start I3 ok hN f3
  generalize hb : (⟨s3, upd H2 p (SetIO X.w p (fun _ => false) 0), s3.heap.objs.size, cellsFrom (s3.heap.objs.size + 1) scope.names (cloFrom X.env.cells scope.names []), fp⟩ : Blk) = blk
  have pg := hg blk
  have pt := ht blk
  have pl := hr blk p
  obtain ⟨W, ⟨m0, w0⟩, turn⟩ := q p fresh blk
  have hblk : blkAt X scope blk = X.blk s3 (upd H2 p (SetIO X.w p (fun _ => false) 0)) scope (compEnvC scope (cellsFrom (s3.heap.objs.size + 1) scope.names (cloFrom X.env.cells scope.names [])) s3.heap.objs.size X.env) fp := by rw [← hb]
  rw [hblk] at pg pt pl
  show codeAny _ _ (.compStart e 0 (.ref it) (.ref p) (compEnvC scope (cellsFrom (s3.heap.objs.size + 1) scope.names (cloFrom X.env.cells scope.names [])) s3.heap.objs.size X.env)) _ { s3 with heap := pushCells (s3.heap.push { cls := .type "dict", data := .dict #[] }) scope.names }
  generalize hce : compEnvC scope (cellsFrom (s3.heap.objs.size + 1) scope.names (cloFrom X.env.cells scope.names [])) s3.heap.objs.size X.env = ce at I4 pg pt pl ⊢
  have here : ce.locals = s3.heap.objs.size := by rw [← hce]; rfl
  have nfp : ∀ b ∈ fp, (upd H2 p (SetIO X.w p (fun _ => false) 0)) b = none := fun b hb => (f3 b hb).1.1
  generalize hH3 : upd H2 p (SetIO X.w p (fun _ => false) 0) = H3 at I3 I4 pg pt pl w0 nfp f3
  generalize hs4 : ({ s3 with heap := pushCells (s3.heap.push { cls := .type "dict", data := .dict #[] }) scope.names } : Shared) = s4 at I4 ⊢
  generalize hY : X.blk s3 H3 scope ce fp = Y at I4 pg pt pl
  have yP : Y.prog = X.prog := by rw [← hY]
  have yw : Y.w = X.w := by rw [← hY]
  have yK : Y.K = X.K := by rw [← hY]
  have yA : Y.A = X.A := by rw [← hY]
  have yc : Y.calm = true := by rw [← hY]; exact hc
  have yx : Y.xe = FF := by rw [← hY]
  have ye : Y.env = ce := by rw [← hY]
  have st4 : tn 0 s4.heap := T.keep _ _ _ st3 fun b _ o q => by rw [← hs4]; exact pushCells_keeps _ _ _ _ (Heap.get?_push_of_some _ q)
  have stat : ∀ {σ' : L2.St} {H' : Hp} {s' : Shared}, Inv Y [] σ' H' s' → (∀ b ∈ fp, H' b = none) → ∀ b ∈ fp, FpOk Y [] H' b := fun {σ' H' s'} I' hn b hb => by
    have z := I'.ok
    have ex : b ∈ Y.ex := by rw [← hY]; exact hb
    have pn : Y.pn = [] := by rw [← hY]
    exact ⟨hn b hb, (z.exf b ex).1, z.exfs b ex, .inl ex, (z.exf b ex).2, fun q hq => by rw [pn] at hq; cases hq⟩
  have T' : Turn Y.prog Y.w Y.K tg J fp it tn := by rw [yP, yw, yK]; exact T
  have loop : codeAny (model Y.prog Y.w) Y.A (.compLoop e 0 (.ref it) (.ref p) Y.env) (compPost (model X.prog X.w) X.A X.xe use Qf (.ref p) s3.heap.objs.size) s4 := by
    refine cloop c rfl (fun n s' => ∃ i H', Inv Y [] (wipe σ (own.map (·.2))) H' s' ∧ tn i s'.heap ∧ (∀ b ∈ fp, H' b = none) ∧ W i n H') ?_ m0 ⟨0, H3, I4, st4, nfp, w0⟩
    rintro n s5 ⟨i, H5, I5, st5, n5, w5⟩
    rcases turn i n H5 w5 with ⟨stop, qq⟩ | ⟨go, Nx', hNx, step⟩
    · refine thn (T'.done Y rfl rfl rfl yc i [] s5 _ H5 FF I5 (stat I5 n5) st5 stop) fun r s6 ⟨hr', I6⟩ => ?_
      subst hr'
      have I6' : Inv (X.blk s3 H3 scope ce fp) [] (wipe σ (own.map (·.2))) H5 s6 := by rw [hY]; exact I6
      have I7 : Inv X pins σ H5 s6 := I3.call' (ch := fp) I6'.os I6'.base I6'.hok I6'.bare fun b hb => ⟨(f3 b hb).1.2.2.2.1, (f3 b hb).1.2.1, (f3 b hb).1.2.2.2.2.1, (f3 b hb).1.2.2.2.2.2⟩
      have nC : H5 s3.heap.objs.size = none := by rw [← here]; exact I6'.free
      obtain ⟨m, hn, _⟩ := I6'.loc
      exact hRR p s3.heap.objs.size s6 m H5 I7 qq (by rw [← here]; exact hn) (I3.fpOk (Nat.le_refl _) nC)
    · refine thn (T'.item Y rfl rfl rfl yc i [] s5 _ H5 FF I5 (stat I5 n5) st5 go) fun r s6 ⟨u, hr', h6⟩ => ?_
      subst hr'
      refine thn h6 fun _ s7 ⟨x, H7, I7, r7, y7, st7, n7⟩ => ?_
      have I7' := I7.pinned (stat I7 n7) (T.obj _ _ st7)
      have h8 := pg.run _ s7 _ H7 x u _ I7' r7 (step x H7 y7)
      rw [yx] at h8
      refine thn h8 fun _ s8 ⟨σ8, H8, I8, hw8, q8⟩ => ?_
      have h9 := pt.run _ s8 σ8 H8 _ I8 q8
      rw [yx] at h9
      refine thn h9 fun b s9 ⟨H9, I9, q9⟩ => ?_
      have fin : ∀ {s' : Shared} {H' : Hp}, Inv Y ([] ++ pinsAt fp s7.heap) σ8 H' s' → Nx' H' → ∃ m, m < n ∧ ∃ i H', Inv Y [] (wipe σ (own.map (·.2))) H' s' ∧ tn i s'.heap ∧ (∀ b ∈ fp, H' b = none) ∧ W i m H' := fun {s' H'} I' nx => by
        obtain ⟨m', hm, w'⟩ := hNx H' nx
        have pinned : ∀ b ∈ fp, ∀ o, s7.heap.get? b = some o → s'.heap.get? b = some o ∧ H' b = none := fun b hb o q =>
          have z := I'.pin (b, o) (List.mem_append_right _ (List.mem_append_right _ (mem_pinsAt hb q)))
          ⟨z.1, z.2.1⟩
        have hl : (wipe σ (own.map (·.2))).length = σ8.length := by rw [← hw8, wipe_length]
        refine ⟨m', hm, i + 1, H', (I'.unpinned (pins := [])).weak hl (fun j v ej => ?_), T.keep _ _ _ st7 fun b hb o q => (pinned b hb o q).1, fun b hb => ?_, w'⟩
        · rw [← hw8] at ej
          exact (wipe_some ej).1
        · obtain ⟨o, q, _⟩ := T.obj _ _ st7 b hb
          exact (pinned b hb o q).2
      cases b with
      | false =>
        simp only [Bool.false_eq_true, if_false] at q9 ⊢
        exact fin I9 q9
      | true =>
        simp only [if_true] at q9 ⊢
        intro k' Q' hk'
        exact pl _ s9 σ8 H9 Nx' k' Q' I9 q9 fun s10 H10 I10 nx => hk' s10 (fin I10 nx)
  rw [yP, yw, yA, ye] at loop
  exact cstart c rfl loop (T.self X.A 0 _ _ _ st4 loop)
section
variable {X : Cx} {elt tg iter : Expr} {ifs : List Expr} {rest : List Comprehension} {scope : Scope} {own : List (Str × Nat)} {pos : Pos} {wi : TI} {g : Blk → TG} {tt : Blk → TT} {t : Blk → Addr → L2.St → Hp → (Hp → Prop) → Prop}
theorem pe_compS (ha : ∀ c ∈ rest, c.is_async = 0) (hc : X.calm = true) (hN : X.N.Nodup) (hi : PI X tg iter wi) (ok : BlkOk X.N X.env.scope scope own) (hg : AtBlk X scope fun b Y => PG Y tg (g b)) (ht : AtBlk X scope fun b Y => PTs Y ifs (tt b))
    (hr : AtBlk X scope fun b Y => ∀ p, PL Y (.SetComp elt (⟨tg, iter, ifs, 0⟩ :: rest) scope pos) (⟨tg, iter, ifs, 0⟩ :: rest) (emitS elt) (.ref p) 1 (t b p)) (hs : ∀ x, foldedSetIterable iter X.env x = pure x) :
    PE X (.SetComp elt (⟨tg, iter, ifs, 0⟩ :: rest) scope pos) (tCompS X.w wi g tt t (own.map (·.2))) := by
  refine ⟨fun pins s σ H Q I h => ?_⟩
  rw [PpSet.eval_SetComp]
  refine comp_coreS (cmpS elt _ scope pos (fun c hc => ?_)) hc hN I hi ok hg ht hr hs h fun p C s' m H' I' q hn f => ⟨m, hn, fun h'' sb => ?_⟩
  · rcases List.mem_cons.mp hc with rfl | hc
    · rfl
    · exact ha c hc
  · obtain ⟨f0, f1, f2, f3, f4, f5⟩ := f
    exact ⟨.ref p, H', I'.turned (t' := s'.toks) (fun b o hb e => (sb.2 b hb).trans e) f0 f1 f3 f4 f5, rfl, q⟩
end
/-- the set holds what was put to it -/
def AR (w : World) (p : Addr) (o : HO) (acc : List D) : Prop := ∃ (S : Int → Bool) (n : Nat) (ns : List Int), o = SetIO w p S n ∧ (∀ j, S j = decide (j ∈ ns)) ∧ n ≤ ns.length ∧ acc = ns.map PyData.int
theorem AR.nt {w : World} {p : Addr} {o : HO} {acc : List D} (h : AR w p o acc) : NT o := by
  obtain ⟨S, n, ns, rfl, _⟩ := h
  exact fun _ z => nomatch z
def SndPS (E : Ev) (p : Addr) (t : L2.St → Hp → (Hp → Prop) → Prop) (f : Fp) : Prop := ∀ (G : Cfg) (W : Wt) (σ : L2.St) (H : Hp) (s : S) (o : HO) (acc acc' : List D) (s' : S), Rel E (G.lay p o) W H σ s → ¬ TownA W.tn p → AR E.w p o acc → f acc s = some (acc', s') → ∀ Nx : Hp → Prop,
  (∀ (o' : HO) (H' : Hp), Rel E (G.lay p o') W H' σ s' → Fz (Av (G.bar p) W) (Av (G.bar p) W) H H' → AR E.w p o' acc' → Nx H') → t σ H Nx
def pEmitI (f : Fe) : Fp := fun acc s => (f s).bind fun (y, s1) => match y with
  | .int k => if acc.length < 4000 then some (acc ++ [.int k], s1) else none
  | _ => none
theorem snd_emitS {E : Ev} {p : Addr} {te : TE} {f : Fe} (sn : SndE E te f) : SndPS E p (fun σ H Nx => te σ H fun y H1 => ∃ k S n, y = .int k ∧ H1 p = some (SetIO E.w p S n) ∧ n + 1 < scanBound ∧ Nx (upd H1 p (SetIO E.w p (fun j => S j || decide (j = k)) (if S k = true then n else n + 1)))) (pEmitI f) := by
  intro G W σ H s o acc acc' s' R ht rs hf Nx hn
  unfold pEmitI at hf
  simp only [Option.bind_eq_some_iff] at hf
  obtain ⟨⟨y, s1⟩, e1, e2⟩ := hf
  dsimp only at e2
  split at e2
  · rename_i k
    split at e2
    · rename_i hl
      cases e2
      obtain ⟨S, n, ns, rfl, hS, hn', rfl⟩ := rs
      rw [List.length_map] at hl
      refine sn (G.lay p (SetIO E.w p S n)) W σ H s _ _ R e1 _ fun v H1 R1 z1 p1 => ?_
      cases p1
      have av : Av (G.bar p) W p := .inl (.inr rfl)
      refine ⟨k, S, n, rfl, R1.at_lay ht, by unfold scanBound; omega, hn _ _ (R1.lay_put ht (fun _ z => nomatch z)) (z1.trans (Fz.turn av)) ⟨_, _, ns ++ [k], rfl, fun j => ?_, ?_, by rw [List.map_append]; rfl⟩⟩
      · rw [hS j, ← Bool.decide_or]
        exact decide_eq_decide.mpr (by simp)
      · rw [List.length_append, List.length_singleton]
        split <;> omega
    · cases e2
  · cases e2
theorem snd_turnsS {E : Ev} {G : Cfg} {W : Wt} {H1 H2 : Hp} {σ : L2.St} {s0 s' : S} {p : Addr} {o0 : HO} {acc acc' ds : List D} {A0 : Addr → Prop} {J : It} {Gd : Hp → Prop} {Y : Nat → Hp → V → Hp → Prop} {tg : TG} {g : Fg} {tt : TT} {ft : Fe} {t : L2.St → Hp → (Hp → Prop) → Prop} {inner : Fp} {vs : List Nat} {Nx : Hp → Prop}
    (sg : SndGc E vs tg g) (st : SndT E tt ft) (sp : SndPS E p t inner) (wl : Wlk E A0 H1 J ds Gd Y) (z0 : Fz A0 (Av (G.bar p) W) H1 H2) (R2 : Rel E (G.lay p o0) W H2 (L2.wipe σ vs) s0) (ht : ¬ TownA W.tn p) (wn : Wn W vs) (rs : AR E.w p o0 acc)
    (hl : clLoop g ft vs inner ds acc s0 = some (acc', s')) (hn : ∀ (ys : HO) H', Rel E (G.lay p ys) W H' (L2.wipe σ vs) s' → Fz (Av (G.bar p) W) (Av (G.bar p) W) H2 H' → AR E.w p ys acc' → Nx H') : tTurns J tg tt t vs σ H2 Nx := by
  refine ⟨fun i m H => m = ds.length - i ∧ i ≤ ds.length ∧ ∃ ys acci si, Rel E (G.lay p ys) W H (L2.wipe σ vs) si ∧ Fz (Av (G.bar p) W) (Av (G.bar p) W) H2 H ∧ AR E.w p ys acci ∧ clLoop g ft vs inner (ds.drop i) acci si = some (acc', s'), ⟨ds.length, by simp, Nat.zero_le _, o0, acc, s0, R2, Fz.refl, rs, hl⟩, ?_⟩
  rintro i m H ⟨rfl, hi, ys, acci, si, R, z, r, hc⟩
  have zz : Fz A0 (Av (G.bar p) W) H1 H := z0.trans z
  have gd := wl.keep _ H zz
  by_cases hlt : i < ds.length
  · refine .inr ⟨wl.walk.goes i H hlt gd, fun H' => ∃ ys acci si, Rel E (G.lay p ys) W H' (L2.wipe σ vs) si ∧ Fz (Av (G.bar p) W) (Av (G.bar p) W) H2 H' ∧ AR E.w p ys acci ∧ clLoop g ft vs inner (ds.drop (i + 1)) acci si = some (acc', s'), fun H' q => ⟨ds.length - (i + 1), by omega, rfl, hlt, q⟩, fun x H' hy => ?_⟩
    obtain ⟨sm, d, hd, rd⟩ := wl.item _ i H x H' zz R.fre hlt (wl.walk.yields i H x H' hlt gd hy)
    have zs : Fz (Av (G.bar p) W) (Av (G.bar p) W) H H' := Fz.of_same sm
    rw [List.drop_eq_getElem_cons hlt] at hc
    have ed : ds[i] = d := by rw [List.getElem?_eq_getElem hlt] at hd; exact Option.some.inj hd
    rw [ed] at hc
    unfold clLoop at hc
    simp only [Option.bind_eq_some_iff] at hc
    obtain ⟨s1, e1, ⟨b, s2⟩, e2, e3⟩ := hc
    refine sg _ W _ H' si x d s1 (R.same sm) wn rd e1 _ fun σ2 R1 hw => ⟨by rw [hw, wipe_idem], ?_⟩
    rw [wipe_idem] at hw
    dsimp only at e3
    split at e3
    · refine st _ W σ2 H' s1 true s2 R1 e2 _ fun H3 R3 z3 => ?_
      rw [if_pos rfl]
      simp only [Option.bind_eq_some_iff] at e3
      obtain ⟨⟨acc2, s3⟩, e4, e5⟩ := e3
      refine sp G W σ2 H3 s2 ys acci acc2 s3 R3 ht r e4 _ fun ys' H4 R4 z4 r4 => ⟨ys', acc2, s3.wipe vs, ?_, ((z.trans zs).trans z3).trans z4, r4, e5⟩
      rw [← hw]
      exact R4.wipe wn
    · refine st _ W σ2 H' s1 false s2 R1 e2 _ fun H3 R3 z3 => ?_
      rw [if_neg Bool.false_ne_true]
      refine ⟨ys, acci, s2.wipe vs, ?_, (z.trans zs).trans z3, r, e3⟩
      rw [← hw]
      exact R3.wipe wn
    · cases e3
  · have e : i = ds.length := by omega
    subst e
    rw [List.drop_length] at hc
    unfold clLoop at hc
    cases hc
    exact .inl ⟨wl.walk.stops H gd, hn ys H R z r⟩
theorem snd_clauseS {E : Ev} {p : Addr} {wi : TI} {fi : Fa} {tg : TG} {g : Fg} {tt : TT} {ft : Fe} {t : L2.St → Hp → (Hp → Prop) → Prop} {inner : Fp} {vs : List Nat} (si : SndI E wi fi) (sg : SndGc E vs tg g) (st : SndT E tt ft) (sp : SndPS E p t inner) :
    SndPS E p (fun σ H Nx => (∀ i ∈ vs, σ[i]? = some none) ∧ tClause wi tg tt t vs σ H Nx) (pFor fi g ft vs inner) := by
  intro G W σ H s o0 acc acc' s' R ht rs hf Nx hn
  unfold pFor at hf
  split at hf
  · rename_i hno
    simp only [Option.bind_eq_some_iff] at hf
    obtain ⟨⟨ds, s1⟩, e1, e2⟩ := hf
    have hv : ∀ i ∈ vs, σ[i]? = some none := fun i hi => R.noc i (allNo_at hno i hi)
    have wn : Wn W vs := fun i hi => by
      cases q : W.ow i with
      | none => rfl
      | some a =>
        obtain ⟨_, _, _, d, h4⟩ := R.dom i a q
        rw [allNo_at hno i hi] at h4; cases h4
    have ew : L2.wipe σ vs = σ := wipe_none hv
    refine ⟨hv, si _ W σ H s ds s1 R e1 _ fun J H1 Gd Y R1 z1 wl => ?_⟩
    refine snd_turnsS (G := G) sg st sp wl Fz.refl (by rw [ew]; exact R1) ht wn rs e2 fun ys H' R' z' r' => ?_
    rw [ew] at R'
    exact hn ys H' R' (z1.trans z') r'
  · cases hf
theorem snd_compS {E : Ev} {wi : TI} {fi : Fa} {tg : Blk → TG} {g : Fg} {tt : Blk → TT} {ft : Fe} {t : Blk → Addr → L2.St → Hp → (Hp → Prop) → Prop} {inner : Fp} {vs : List Nat} (si : SndI E wi fi) (sg : ∀ b, SndGc E vs (tg b) g) (st : ∀ b, SndT E (tt b) ft) (sp : ∀ b p, SndPS E p (t b p) inner)
    {G : Cfg} {W : Wt} {σ : L2.St} {H : Hp} {s : S} {d : D} {s' : S} (R : Rel E G W H σ s) (hf : eComp fi g ft vs inner s = some (d, s')) (Q : VK) (hq : ∀ (p : Addr) (H' : Hp) (S : Int → Bool) (n : Nat) (ns : List Int), H p = none → Rel E (G.bar p) W H' σ s' → Fz (Av G W) (Av (G.bar p) W) H H' → H' p = some (SetIO E.w p S n) → (∀ j, S j = decide (j ∈ ns)) → d = .list (ns.map PyData.int) → Q (.ref p) H') : tCompS E.w wi tg tt t vs σ H Q := by
  unfold eComp at hf
  simp only [Option.bind_eq_some_iff] at hf
  obtain ⟨⟨ds, s1⟩, e1, e2⟩ := hf
  dsimp only at e2
  split at e2
  · rename_i hno
    simp only [Option.map_eq_some_iff] at e2
    obtain ⟨⟨acc, s2⟩, e3, e4⟩ := e2
    cases e4
    refine si G W σ H s ds s1 R e1 _ fun J H1 Gd Y R1 z1 wl p hp b => ?_
    have hp0 : H p = none := none_back R z1 R1.there hp
    have ht : ¬ TownA W.tn p := fun z => R1.free hp (.inr (.inr z))
    have wn : Wn W vs := fun i hi => by
      cases q : W.ow i with
      | none => rfl
      | some a =>
        obtain ⟨_, _, _, d, h4⟩ := R1.dom i a q
        exact absurd h4 ((noOwn_at hno hi).1 d)
    have R2 : Rel E (G.lay p (SetIO E.w p (fun _ => false) 0)) W (upd H1 p (SetIO E.w p (fun _ => false) 0)) (L2.wipe σ vs) (s1.wipe vs) := (R1.to_lay (o := SetIO E.w p (fun _ => false) 0) hp (fun _ z => nomatch z)).wipe wn
    have z2 : Fz (Av G W) (Av (G.bar p) W) H1 (upd H1 p (SetIO E.w p (fun _ => false) 0)) := Fz.laid hp G W
    refine snd_turnsS (G := G) (sg b) (st b) (sp b p) wl z2 R2 ht wn ⟨_, _, [], rfl, fun j => by simp, Nat.le_refl _, rfl⟩ e3 fun ys H' R' z' r' => ?_
    obtain ⟨S, n, ns, rfl, hS, _, rfl⟩ := r'
    have e0 : G.H0 p = none := R1.fresh0 hp
    exact hq p H' S n ns hp0 (R1.mix (R'.of_lay e0) hno (z2.trans z')) (z1.trans (z2.trans z')) (R'.at_lay ht) hS rfl
  · cases e2
/-! ### derivations -/
structure VPS (Y : Cx) (e : Expr) (gens : List Comprehension) (elt : Expr) (d : Nat) (f : Fp) : Prop where
  ex : ∀ p : Addr, ∃ t, PL Y e gens (emitS elt) (.ref p) d t ∧ SndPS (evX Y) p t f
section
variable {Y X : Cx} {e elt tg iter : Expr} {es ifs : List Expr} {gens rest : List Comprehension} {d : Nat} {f ft : Fe} {fi : Fa} {g : Fg} {vs : List Nat} {inner : Fp} {scope : Scope} {own : List (Str × Nat)} {pos p' spos : Pos} {c : Expr}
theorem vps_emit (hx : Y.xe = FF) (he : VE Y elt f) (hd : gens[d]? = none := by rfl) : VPS Y e gens elt d (pEmitI f) := ⟨fun p => let ⟨_, pe, sn⟩ := he.ex; ⟨_, pl_emitS hx hd pe, snd_emitS sn⟩⟩
theorem vps_for (k : CmpK e gens (emitS elt)) (hx : Y.xe = FF) (hc : Y.calm = true) (hi : VI Y tg iter fi) (hg : VGe Y vs tg g) (ht : VTs Y ifs ft) (hr : VPS Y e gens elt (d + 1) inner) (hd : gens[d]? = some ⟨tg, iter, ifs, 0⟩ := by rfl) (hs : ∀ x, foldedSetIterable iter Y.env x = pure x := by intro _; rfl) : VPS Y e gens elt d (pFor fi g ft vs inner) := by
  refine ⟨fun p => ?_⟩
  obtain ⟨wi, pi, si⟩ := hi.ex
  obtain ⟨tt, pt, st⟩ := ht.ex
  obtain ⟨t, pl, sl⟩ := hr.ex p
  obtain ⟨tg', pg⟩ := hg.ex
  exact ⟨_, pl_clause k hx hc hd pi pg.p pt hs pl, snd_clauseS si pg.s st sl⟩
structure BlkS (Y : Cx) (tg : Expr) (ifs : List Expr) (e : Expr) (gens : List Comprehension) (elt : Expr) (vs : List Nat) (g : Fg) (ft : Fe) (inner : Fp) : Prop where
  hg : VGe Y vs tg g
  ht : VTs Y ifs ft
  hr : VPS Y e gens elt 1 inner
end
section
variable {X : Cx} {pins : List (Addr × Obj)} {σ : L2.St} {H : Hp} {s : Shared}
theorem sorted_setIO {D0 : Addr} {S : Int → Bool} {n0 : Nat} {ns : List Int} {Q : VK} (hc : X.calm = true) (hu : X.A.units + 64 < cLine) (I1 : Inv X pins σ H s) (hD : H D0 = some (SetIO X.w D0 S n0)) (hSL : ∀ j, S j = decide (j ∈ ns)) (q : ∀ p, H p = none → Q (.ref p) (upd H p (.lst ((sortI ns).map V.int)))) :
    wpAny (model X.prog X.w) X.A (call (.builtin "sorted") [.ref D0]) (EP X pins σ Q) X.xe s := by
  have I := I1
  have hS := setIO_get I1 hD
  obtain ⟨o, es, ep, t, ho, hex, hd, g, nd, hm, hb, hf, hn', hr, hl⟩ := hS
  have good : ∀ v ∈ es.toList.map (·.2), ∃ k t, v = Value.int k t := fun v hv => by
    obtain ⟨e, he, rfl⟩ := List.mem_map.mp hv
    obtain ⟨k, tk, h1, _⟩ := g e he
    exact ⟨k, tk, h1⟩
  refine sorted_of_set (enc := encI) (I.ok.hd hc) ⟨o, ho, hex.1, hd⟩ hf hb hr hl (fun v hv => ?_) (fun v v' => ?_) (.inr fun v => ?_) (fun v => ?_) fun s' p vs out cc k2 g2 o2 hp hg pm eo => ?_
  · obtain ⟨k, t, rfl⟩ := good v hv
    exact ⟨[], .int k t⟩
  · rw [encI_num, encI_num]; simp [PySem.W.alike]
  · rw [encI_num]; exact ⟨fun z => (nomatch z), fun xs z => (nomatch z)⟩
  · rw [encI_num]; simp [PyData.depth]; omega
  · have gv : ∀ v ∈ vs, ∃ k t, v = Value.int k t := fun v hv => good v (pm.mem_iff.mp hv)
    have go : ∀ v ∈ out, ∃ k t, v = Value.int k t := fun v hv => by rw [eo] at hv; exact gv v (List.mem_mergeSort.mp hv)
    have ek : (es.toList.map (·.2)).map numI = es.toList.map L2.keyOf := by
      rw [List.map_map]
      refine List.map_congr_left fun e he => ?_
      obtain ⟨k, tk, h1, _⟩ := g e he
      show numI e.2 = L2.keyOf e
      unfold L2.keyOf
      rw [h1]
      rfl
    have en : out.map numI = sortI ns := by
      rw [eo, PySem.W.sort_maps numI (fun a _ b _ => leI_enc a b)]
      have pn : (vs.map numI).Perm (es.toList.map L2.keyOf) := by rw [← ek]; exact pm.map numI
      refine sort_same leI_tr leI_tot leI_anti (pn.nodup_iff.mpr nd) fun x => ?_
      rw [pn.mem_iff, ← hm x, hSL x, decide_eq_true_eq]
    have hn : H p = none := I1.hok.fresh hp
    have vo := vals_nums go
    rw [en] at vo
    have hlen : ((sortI ns).map V.int).length ≤ sizeLine := by rw [vo.length, eo, List.length_mergeSort, pm.length_eq, List.length_map, Array.length_toList, sizeLine_eq]; unfold scanBound at hb; omega
    have J : Inv X pins σ (upd H p (.lst ((sortI ns).map V.int))) { s with heap := s'.heap, gens := s'.gens, drawn := s'.drawn, toks := s'.toks } :=
      I1.call (ch := []) (Un.laid k2 hp hn) (I1.hok.laid k2 hp ⟨hlen, out, cc, vo, hg⟩) (by rw [g2]; exact I1.bare) (fun _ z => nomatch z)
    have e : s' = { s with heap := s'.heap, gens := s'.gens, drawn := s'.drawn, toks := s'.toks } := by
      cases s'; cases s; cases o2; rfl
    rw [e]
    exact ⟨.ref p, _, J, rfl, q p hn⟩
/-! tuples -/
end
section
variable {X : Cx} {elt tg iter : Expr} {ifs : List Expr} {rest : List Comprehension} {scope : Scope} {own : List (Str × Nat)} {pos p' spos : Pos} {g : Fg} {ft : Fe} {fi : Fa} {inner : Fp}
theorem rowsI_ints : ∀ ns : List Int, rowsI (ns.map PyData.int) = some ns
  | [] => rfl
  | k :: ns => by
    show (rowsI (ns.map PyData.int)).map (fun ns => k :: ns) = _
    rw [rowsI_ints ns]
    rfl
theorem vf_sortSC (hc : X.calm = true) (hu : X.A.units + 64 < cLine) (hgs : Gl X "sorted") (hms : X.mg "sorted" = none) (hN : X.N.Nodup) (ok : BlkOk X.N X.env.scope scope own) (hi : VI X tg iter fi)
    (hb : ∀ b : Blk, BlkS (blkAt X scope b) tg ifs (.SetComp elt (⟨tg, iter, ifs, 0⟩ :: rest) scope pos) (⟨tg, iter, ifs, 0⟩ :: rest) elt (own.map (·.2)) g ft inner) (ha : ∀ c ∈ rest, c.is_async = 0 := by decide) (hs : ∀ x, foldedSetIterable iter X.env x = pure x := by intro _; rfl)
    (nb : starEach [Expr.SetComp elt (⟨tg, iter, ifs, 0⟩ :: rest) scope pos] X.env = (false, eval (Expr.SetComp elt (⟨tg, iter, ifs, 0⟩ :: rest) scope pos) X.env) :: starEach [] X.env := by rfl) :
    VF X (.Call (.Name "sorted" p') [.SetComp elt (⟨tg, iter, ifs, 0⟩ :: rest) scope pos] [] spos) (eUn sortSetD (eComp fi g ft (own.map (·.2)) inner)) := by
  obtain ⟨wi, pi, si⟩ := hi.ex
  have a1 : ∀ b, ∃ t, VGc (blkAt X scope b) (own.map (·.2)) tg t g := fun b => (hb b).hg.ex
  have a2 : ∀ b, ∃ t, PTs (blkAt X scope b) ifs t ∧ SndT (evX X) t ft := fun b => (hb b).ht.ex
  have a3 : ∀ b, ∀ p, ∃ t, PL (blkAt X scope b) (.SetComp elt (⟨tg, iter, ifs, 0⟩ :: rest) scope pos) (⟨tg, iter, ifs, 0⟩ :: rest) (emitS elt) (.ref p) 1 t ∧ SndPS (evX X) p t inner := fun b => (hb b).hr.ex
  have pe := pe_compS ha hc hN pi ok (fun b => (a1 b).choose_spec.p) (fun b => (a2 b).choose_spec.1) (fun b p => (a3 b p).choose_spec.1) hs
  refine ⟨fun σ H Q => tCompS X.w wi (fun b => (a1 b).choose) (fun b => (a2 b).choose) (fun b p => (a3 b p).choose) (own.map (·.2)) σ H fun v H1 => ∃ (D0 : Addr) (S : Int → Bool) (n0 : Nat) (ns : List Int), v = .ref D0 ∧ H1 D0 = some (SetIO X.w D0 S n0) ∧ (∀ j, S j = decide (j ∈ ns)) ∧ ∀ p, H1 p = none → Q (.ref p) (upd H1 p (.lst ((sortI ns).map V.int))), ⟨fun pins s σ H Q I h => ?_⟩, ?_⟩
  · refine Call_ (ld_blt I hgs hms PyProof.Rows.boot_sorted ?_)
    refine PyProof.Rows.callWith_builtin1 (PyProof.Rows.args_cons (thn (pe.run pins s σ H _ I h) fun v s1 ⟨x, H1, I1, r1, D0, S, n0, ns, ex, hD, hS, q1⟩ => PyProof.Rows.args_nil ?_) nb) nb rfl
    subst ex
    cases r1
    exact sorted_setIO hc hu I1 hD hS q1
  · intro G W σ H s d s' R hf Q hq
    unfold eUn at hf
    simp only [Option.bind_eq_some_iff, Option.map_eq_some_iff] at hf
    obtain ⟨⟨x, s1⟩, e1, z, e2, e3⟩ := hf
    cases e3
    refine snd_compS si (fun b => (a1 b).choose_spec.s) (fun b => (a2 b).choose_spec.2) (fun b p => (a3 b p).choose_spec.2) R e1 _ fun p H1 S n ns hp0 R1 z1 hD hS ex => ?_
    subst ex
    refine ⟨p, S, n, ns, rfl, hD, hS, fun p2 hn => ?_⟩
    have R1' := R1.unbar
    have z1' := z1.unbar
    have er := rowsI_ints ns
    unfold sortSetD at e2
    dsimp only at e2
    rw [er] at e2
    dsimp only at e2
    split at e2
    · cases e2
      exact hq p2 _ (none_back R z1' R1'.there hn) (R1'.laid hn) (z1'.laid' hn) (new_list hn (reps_ints _))
    · cases e2
end
end Fx
-- Fy1
namespace Fx
open PySem PySem.Spec L2
/-! ### defs that raise: the exception's class by its name, and what it bears -/
inductive Rx where
  | ok (d : D) | exc (c : Str) (x : Option D)
abbrev FeX := S → Option (Rx × S)
inductive FlX where
  | fl (f : Fl) | exc (c : Str) (x : Option D)
abbrev FsX := S → Option (FlX × S)
/-- the wish of an exception of the class c -/
def XOk (E : Ev) (A : Addr → Prop) (mg : Str → Option Value) (Xk : XK) (c : Str) (x : Option D) (H : Hp) : Prop := ∀ C, mg c = some (.ref C) → match x with
  | none => Xk (.ref C) none H
  | some d => ∀ dd v, H dd = some (.xd [("standing", v)]) → Rep E A H v d → Xk (.ref C) (some dd) H
def AnsX (E : Ev) (G : Cfg) (W : Wt) (mg : Str → Option Value) (Wx : WX) (σ : L2.St) (H : Hp) (s' : S) (Q : VK) : Rx → Prop
  | .ok d => ∀ v H', Rel E G W H' σ s' → Fz (Av G W) (Av G W) H H' → Rep E (Av G W) H' v d → Q v H'
  | .exc c x => ∀ H', Rel E G W H' σ s' → Fz (Av G W) (Av G W) H H' → XOk E (Av G W) mg (fun cls d H => Wx cls d σ H) c x H'
def SndEX (E : Ev) (mg : Str → Option Value) (Wx : WX) (t : TE) (f : FeX) : Prop := ∀ G W σ H s r s', Rel E G W H σ s → f s = some (r, s') → ∀ Q : VK, AnsX E G W mg Wx σ H s' Q r → t σ H Q
structure VEX (X : Cx) (Wx : WX) (e : Expr) (f : FeX) : Prop where
  ex : ∃ t, PE X e t ∧ SndEX (evX X) X.mg Wx t f
def PostX (E : Ev) (mg : Str → Option Value) (Wx : WX) (G : Cfg) (W : Wt) (H : Hp) (Dn : Ends) : Option (FlX × S) → Prop
  | some (.fl f, s') => Post E G W H Dn (some (f, s'))
  | some (.exc c x, s') => ∀ W' σ' H', Rel E G W' H' σ' s' → Fz (Av G W) (Av G W') H H' → Wk W W' → XOk E (Av G W') mg (fun cls d H => Wx cls d σ' H) c x H'
  | none => False
def SndSX (E : Ev) (mg : Str → Option Value) (Wx : WX) (t : TS) (F : FsX) : Prop := ∀ G W σ H s Dn, Rel E G W H σ s → PostX E mg Wx G W H Dn (F s) → t Dn σ H
structure VSX (X : Cx) (Wx : WX) (st : Stmt) (F : FsX) : Prop where
  ex : ∃ t, PS X st t ∧ SndSX (evX X) X.mg Wx t F
structure VBX (X : Cx) (Wx : WX) (st : List Stmt) (F : FsX) : Prop where
  ex : ∃ t, PSs X st t ∧ SndSX (evX X) X.mg Wx t F
section
variable {X : Cx}
theorem ps_nox {st : Stmt} {t : TS} (h : PS X.nox st t) : PS X st t := ⟨fun pins s σ H D I hw => wpAny_mono (h.run pins s σ H D (I.wish _) hw) (fun _ _ q => q.unwish) fun _ _ z => False.elim z⟩
theorem pa_nox {es : List Expr} {t : TA} (h : PA X.nox es t) : PA X es t := ⟨fun pos pins s σ H Q I hw =>
  wpAny_mono (h.run pos pins s σ H Q (I.wish _) hw) (fun _ _ ⟨v, H', I', r, q⟩ => ⟨v, H', I'.unwish, r, q⟩) fun _ _ z => False.elim z⟩
theorem pg_nox {tg : Expr} {t : TG} (h : PG X.nox tg t) : PG X tg t := ⟨fun pins s σ H v u Q I r hw =>
  wpAny_mono (h.run pins s σ H v u Q (I.wish _) r hw) (fun _ _ ⟨σ', H', I', q⟩ => ⟨σ', H', I'.unwish, q⟩) fun _ _ z => False.elim z⟩
theorem pi_nox {tg e : Expr} {t : TI} (h : PI X.nox tg e t) : PI X tg e t := ⟨fun pins s σ H R I hw =>
  wpAny_mono (h.run pins s σ H R (I.wish _) hw) (fun _ _ q => wpAny_mono q (fun _ _ ⟨it, fp, tn, J, H2, e, I2, rest⟩ => ⟨it, fp, tn, J, H2, e, I2.unwish, rest⟩) fun _ _ z => False.elim z) fun _ _ z => False.elim z⟩
end
section
variable {E : Ev} {mg : Str → Option Value} {Wx : WX} {G : Cfg} {W W' : Wt} {H H' : Hp} {σ : L2.St} {s s' : S} {Dn : Ends}
theorem PostX.back {r : Option (FlX × S)} (z : Fz (Av G W) (Av G W') H H') (k : Wk W W') (p : PostX E mg Wx G W H Dn r) : PostX E mg Wx G W' H' Dn r := by
  match r, p with
  | some (.fl f, s'), p => exact Post.back z k p
  | some (.exc c x, s'), p => exact fun W2 σ2 H2 r2 z2 k2 => p W2 σ2 H2 r2 (z.trans z2) (k.trans k2)
  | none, p => exact p
/-- no other ends -/
theorem PostX.ends {r : Option (FlX × S)} {Dn' : Ends} (e : ∀ f s', r = some (.fl f, s') → Post E G W H Dn (some (f, s')) → Post E G W H Dn' (some (f, s'))) (p : PostX E mg Wx G W H Dn r) : PostX E mg Wx G W H Dn' r := by
  match r, p with
  | some (.fl f, s'), p => exact e f s' rfl p
  | some (.exc c x, s'), p => exact p
  | none, p => exact p
end
/-! statements -/
def xS (F : Fs) : FsX := fun s => (F s).map fun (f, s1) => (.fl f, s1)
def xE (f : Fe) : FeX := fun s => (f s).map fun (d, s1) => (.ok d, s1)
def xSeq (F1 F2 : FsX) : FsX := fun s => match F1 s with
  | some (.fl .next, s1) => F2 s1
  | r => r
section
variable {X : Cx} {Wx : WX} {st : Stmt} {rest a b : List Stmt} {F : Fs} {F1 F2 F3 : FsX} {f : Fe} {fx : FeX} {e c : Expr} {pos : Pos}
theorem snd_xS {E : Ev} {mg : Str → Option Value} {t : TS} (sn : SndS E t F) : SndSX E mg Wx t (xS F) := by
  intro G W σ H s Dn R p
  refine sn G W σ H s Dn R ?_
  unfold xS at p
  match e : F s, p with
  | some (f, s1), p => exact p
  | none, p => exact p
theorem vsx_of (h : VS X.nox st F) : VSX X Wx st (xS F) := by
  obtain ⟨t, p, sn⟩ := h.ex
  exact ⟨t, ps_nox p, snd_xS sn⟩
theorem vbx_of (h : VB X.nox rest F) : VBX X Wx rest (xS F) := by
  obtain ⟨t, p, sn⟩ := h.ex
  exact ⟨t, p.nox, snd_xS sn⟩
theorem vex_of (h : VE X.nox e f) : VEX X Wx e (xE f) := by
  obtain ⟨t, p, sn⟩ := h.ex
  refine ⟨t, p.nox, fun G W σ H s r s' R hf Q hq => ?_⟩
  unfold xE at hf
  rw [Option.map_eq_some_iff] at hf
  obtain ⟨⟨d, s1⟩, h1, h2⟩ := hf
  cases h2
  exact sn G W σ H s d _ R h1 Q hq
theorem vbx_cons (h1 : VSX X Wx st F1) (h2 : VBX X Wx rest F2) : VBX X Wx (st :: rest) (xSeq F1 F2) := by
  obtain ⟨t, p, sn⟩ := h1.ex
  obtain ⟨u, q, sm⟩ := h2.ex
  refine ⟨_, pss_cons p q, fun G W σ H s Dn R po => sn G W σ H s { Dn with nx := u Dn } R ?_⟩
  unfold xSeq at po
  match e : F1 s, po with
  | some (.fl .next, s1), po => exact fun W' σ' H' R' z k => sm G W' σ' H' s1 Dn R' (PostX.back z k po)
  | some (.fl .brk, s1), po => exact po
  | some (.fl .cont, s1), po => exact po
  | some (.fl (.ret d), s1), po => exact po
  | some (.fl (.retF d), s1), po => exact po
  | some (.exc c x, s1), po => exact po
  | none, po => exact po
theorem vbx_one (h1 : VSX X Wx st F3) : VBX X Wx [st] F3 := by
  obtain ⟨t, p, sn⟩ := h1.ex
  exact ⟨_, pss_one p, sn⟩
def xIf (c : Fe) (F1 F2 : FsX) : FsX := fun s => (c s).bind fun (x, s1) => match x with
  | .bool true => F1 s1
  | .bool false => F2 s1
  | _ => none
theorem xIf_some {c : Fe} {s : S} {E : Ev} {mg : Str → Option Value} {G : Cfg} {W : Wt} {H : Hp} {Dn : Ends} (po : PostX E mg Wx G W H Dn (xIf c F1 F2 s)) : ∃ s1, (c s = some (.bool true, s1) ∧ PostX E mg Wx G W H Dn (F1 s1)) ∨ (c s = some (.bool false, s1) ∧ PostX E mg Wx G W H Dn (F2 s1)) := by
  unfold xIf at po
  match e : c s, po with
  | none, po => exact po.elim
  | some (.bool true, s1), po => exact ⟨s1, .inl ⟨rfl, po⟩⟩
  | some (.bool false, s1), po => exact ⟨s1, .inr ⟨rfl, po⟩⟩
  | some (.none, s1), po => exact po.elim
  | some (.int _, s1), po => exact po.elim
  | some (.str _, s1), po => exact po.elim
  | some (.list _, s1), po => exact po.elim
  | some (.tuple _, s1), po => exact po.elim
  | some (.dict _, s1), po => exact po.elim
theorem vsx_if (hc : VT X.nox c f) (h1 : VBX X Wx a F1) (h2 : VBX X Wx b F2) : VSX X Wx (.If c a b pos) (xIf f F1 F2) := by
  obtain ⟨tc, pc, sc⟩ := hc.ex
  obtain ⟨t, p, sn⟩ := h1.ex
  obtain ⟨u, q, sm⟩ := h2.ex
  refine ⟨_, ps_if pc.nox p q, fun G W σ H s Dn R po => ?_⟩
  obtain ⟨s1, ⟨e, po⟩ | ⟨e, po⟩⟩ := xIf_some po
  · refine sc G W σ H s _ s1 R e _ fun H1 R1 z1 => ?_
    rw [if_pos rfl]
    exact sn G W σ H1 s1 Dn R1 (PostX.back z1 Wk.refl po)
  · refine sc G W σ H s _ s1 R e _ fun H1 R1 z1 => ?_
    rw [if_neg Bool.false_ne_true]
    exact sm G W σ H1 s1 Dn R1 (PostX.back z1 Wk.refl po)
/-- with a value that may be an exception -/
def xBind (f : FeX) (k : D → S → Option (FlX × S)) : FsX := fun s => match f s with
  | some (.ok d, s1) => k d s1
  | some (.exc c x, s1) => some (.exc c x, s1)
  | none => none
theorem snd_bind {E : Ev} {mg : Str → Option Value} {t : TE} {k : D → S → Option (FlX × S)} {tk : Ends → V → L2.St → Hp → Prop} (sn : SndEX E mg Wx t fx)
    (hk : ∀ G W σ H s d v Dn, Rel E G W H σ s → Rep E (Av G W) H v d → PostX E mg Wx G W H Dn (k d s) → tk Dn v σ H) : SndSX E mg Wx (fun Dn σ H => t σ H fun v H1 => tk Dn v σ H1) (xBind fx k) := by
  intro G W σ H s Dn R po
  unfold xBind at po
  match e : fx s, po with
  | none, po => exact po.elim
  | some (.ok d, s1), po => exact sn G W σ H s _ s1 R e _ fun v H1 R1 z1 p1 => hk G W σ H1 s1 d v Dn R1 p1 (PostX.back z1 Wk.refl po)
  | some (.exc c x, s1), po => exact sn G W σ H s _ s1 R e _ fun H1 R1 z1 => po W σ H1 R1 z1 Wk.refl
def xExpr (f : FeX) : FsX := xBind f fun _ s => some (.fl .next, s)
theorem vsx_expr (h : VEX X Wx e fx) (hs : swapsWith e none pos.line X.env = pure false := by rfl) : VSX X Wx (.Expr e pos) (xExpr fx) := by
  obtain ⟨t, p, sn⟩ := h.ex
  exact ⟨_, ps_expr p hs, snd_bind (tk := fun Dn _ σ H => Dn.nx σ H) sn fun G W σ H s d v Dn R _ po => po W σ H R Fz.refl Wk.refl⟩
def xRet (f : FeX) : FsX := xBind f fun d s => some (.fl (.ret d), s)
theorem vsx_ret (h : VEX X Wx e fx) : VSX X Wx (.Return (some e) pos) (xRet fx) := by
  obtain ⟨t, p, sn⟩ := h.ex
  refine ⟨_, ps_ret p, snd_bind (tk := fun Dn v _ H => Dn.rt v H) sn fun G W σ H s d v Dn R r po => po W v H R.left Wk.refl (r.weak fun a z => ?_)⟩
  rcases z with z | z
  · exact .inl z
  · exact .inr (.inr z)
def xAsg (f : FeX) (g : Fg) : FsX := xBind f fun d s => (g d s).map fun s2 => (.fl .next, s2)
theorem vsx_asg {tg : Expr} {g : Fg} (h : VEX X Wx e fx) (hg : VG X.nox tg g) (hs : swapsWithSole [tg] e pos.line X.env = pure false := by rfl) (hw : swappedStores [tg] e X.env = pure none := by rfl) (h1 : (assignEach [tg] X.env).map (·.2) = [assign tg X.env] := by rfl) : VSX X Wx (.Assign [tg] e pos) (xAsg fx g) := by
  obtain ⟨t, p, sn⟩ := h.ex
  obtain ⟨u, pg, sg⟩ := hg.ex
  refine ⟨_, ps_asg p (pg_nox pg) hs hw h1, snd_bind (tk := fun Dn v σ H => u v σ H Dn.nx) sn fun G W σ H s d v Dn R r po => ?_⟩
  match e2 : g d s, po with
  | none, po => exact po.elim
  | some s2, po =>
    exact sg G W σ H s v d s2 R r e2 _ fun W3 σ3 R3 a3 k3 => po W3 σ3 H R3 (Fz.weak a3) k3
/-- the test is an exception perhaps -/
def xIfX (c : FeX) (F1 F2 : FsX) : FsX := xBind c fun d s => match d with
  | .bool true => F1 s
  | .bool false => F2 s
  | _ => none
/-! values -/
def eIfX (c : Fe) (f1 f2 : FeX) : FeX := fun s => (c s).bind fun (x, s1) => match x with
  | .bool true => f1 s1
  | .bool false => f2 s1
  | _ => none
theorem vex_if {e1 e2 : Expr} {f1 f2 : FeX} (hc : VT X.nox c f) (h1 : VEX X Wx e1 f1) (h2 : VEX X Wx e2 f2) : VEX X Wx (.IfExp c e1 e2 pos) (eIfX f f1 f2) := by
  obtain ⟨tc, pc, sc⟩ := hc.ex
  obtain ⟨t, p, sn⟩ := h1.ex
  obtain ⟨u, q, sm⟩ := h2.ex
  refine ⟨_, pe_ifExp pc.nox p q, fun G W σ H s r s' R hf Q hq => ?_⟩
  have back : ∀ {H1 : Hp}, Fz (Av G W) (Av G W) H H1 → AnsX (evX X) G W X.mg Wx σ H1 s' Q r := fun {H1} z1 => by
    cases r with
    | ok d => exact fun v H2 R2 z2 p2 => hq v H2 R2 (z1.trans z2) p2
    | exc c x => exact fun H2 R2 z2 => hq H2 R2 (z1.trans z2)
  unfold eIfX at hf
  rw [Option.bind_eq_some_iff] at hf
  obtain ⟨⟨d, s1⟩, h1, h2⟩ := hf
  dsimp only at h2
  split at h2
  · refine sc G W σ H s _ s1 R h1 _ fun H1 R1 z1 => ?_
    rw [if_pos rfl]
    exact sn G W σ H1 s1 r s' R1 h2 Q (back z1)
  · refine sc G W σ H s _ s1 R h1 _ fun H1 R1 z1 => ?_
    rw [if_neg Bool.false_ne_true]
    exact sm G W σ H1 s1 r s' R1 h2 Q (back z1)
  · cases h2
/-- on the left of an operator -/
def eBinX (g : D → D → Option D) (f1 : FeX) (f2 : Fe) : FeX := fun s => match f1 s with
  | some (.ok x, s1) => (f2 s1).bind fun (y, s2) => (g x y).map fun z => (.ok z, s2)
  | some (.exc c x, s1) => some (.exc c x, s1)
  | none => none
theorem snd_opX {E : Ev} {mg : Str → Option Value} {ta tb : TE} {f1 : FeX} {f2 : Fe} {r : R2} {g : D → D → Option D} (ha : SndEX E mg Wx ta f1) (hb : SndE E tb f2) (hr : SndR E r g) : SndEX E mg Wx (tOp r ta tb) (eBinX g f1 f2) := by
  intro G W σ H s d s' R hf Q hq
  unfold eBinX at hf
  match e : f1 s, hf with
  | none, hf => cases hf
  | some (.exc c x, s1), hf =>
    cases hf
    exact ha G W σ H s _ _ R e _ fun H1 R1 z1 => hq H1 R1 z1
  | some (.ok x, s1), hf =>
    simp only [Option.bind_eq_some_iff, Option.map_eq_some_iff] at hf
    obtain ⟨⟨y, s2⟩, h2, z, h3, h4⟩ := hf
    cases h4
    refine ha G W σ H s _ s1 R e _ fun v H1 R1 z1 p1 => ?_
    refine hb G W σ H1 s1 y _ R1 h2 _ fun u H2 R2 z2 p2 => ?_
    exact hr _ H2 R2.fre v u x y _ (p1.fz z2) p2 h3 _ fun z' H3 sm hz => hq z' H3 (R2.same sm) ((z1.trans z2).trans (Fz.of_same sm)) hz
end
end Fx
-- Fy2
namespace Fx
open PySem PySem.Spec L2
/-! ### raise, calls that raise, defs that raise -/
structure XCls (K : PySem.W.Frag) (mg : Str → Option Value) (c : Str) (C : Addr) : Prop where
  g : mg c = some (.ref C)
  x : PySem.W.excIn K C [.type "ValueError", .type "Exception", .type "BaseException", .type "object"] "ValueError.__new__" = true
  k : PySem.W.keepIn K (.ref C) = true
  b : PySem.W.subIn K (.ref C) (.type "BaseException") = some true
  t : PySem.W.typeIn K (.ref C) = some (.type "type")
def xRaise (c : Str) : FsX := fun s => some (.exc c none, s)
def AnsF (E : Ev) (mg : Str → Option Value) (O : Addr → Prop) (H : Hp) (Q : VK) (Xk : XK) : Rx → Prop
  | .ok d => ∀ v H', Same H H' → Rep E O H' v d → Q v H'
  | .exc c x => ∀ H', Same H H' → XOk E O mg Xk c x H'
/-- a def that may raise -/
def spX (E : Ev) (mg : Str → Option Value) (n : Nat) (g : List D → Option Rx) : Sp := fun vs H Q Xk => ∃ (O : Addr → Prop) (ds : List D) (r : Rx), ds.length = n ∧ Reps E O H vs ds ∧ Fre O H ∧ g ds = some r ∧ AnsF E mg O H Q Xk r
theorem spX_len {E : Ev} {mg : Str → Option Value} {n : Nat} {g : List D → Option Rx} : ∀ vs H Q Xk, spX E mg n g vs H Q Xk → vs.length = n := fun vs H Q Xk ⟨_, ds, _, h1, h2, _⟩ => by rw [h2.length]; exact h1
def eFnX (n : Nat) (g : List D → Option Rx) (fa : Fa) : FeX := fun s => (fa s).bind fun (xs, s1) => if xs.length = n then (g xs).map fun z => (z, s1) else none
theorem eFnX_some {n : Nat} {g : List D → Option Rx} {fa : Fa} {s s' : S} {r : Rx} (h : eFnX n g fa s = some (r, s')) : ∃ xs, fa s = some (xs, s') ∧ xs.length = n ∧ g xs = some r := by
  unfold eFnX at h
  simp only [Option.bind_eq_some_iff] at h
  obtain ⟨⟨x, s1⟩, h1, h2⟩ := h
  dsimp only at h2
  split at h2
  · simp only [Option.map_eq_some_iff] at h2
    obtain ⟨z, h3, h4⟩ := h2
    cases h4
    exact ⟨x, h1, by assumption, h3⟩
  · cases h2
section
variable {X : Cx} {Wx : WX} {k n : Nat} {f : Addr} {fd : FuncData} {ps : List Str} {g : List D → Option Rx} {x : Str} {p pos : Pos} {e : Expr} {es : List Expr} {fa : Fa}
theorem vsx_raise {c m : Str} {C : Addr} {j : Nat} {p2 p3 : Pos} (T : XCls X.K X.mg c C) (hc : X.calm = true) (tk : Takes X Wx) (hg : Gl X c) (hdb : (c == ("__debug__" : Str)) = false := by decide +kernel) : VSX X Wx (.Raise (some (.Call (.Name c p) [.Constant (.str m) j p2] [] pos)) none p3) (xRaise c) := by
  refine ⟨_, ps_raise hc tk (pmk_own PySem.F.excBase_ValueError T.x T.g T.k (raises_own T.b T.t) hg hdb), fun G W σ H s Dn R po => ?_⟩
  exact po W σ H R Fz.refl Wk.refl C T.g
theorem vex_fn (F : FnOk X.prog X.w X.K X.mg X.base (L2.CX X.prog X.w) k f fd ps (spX (evX X) X.mg n g)) (hr : Room k X.A) (hg : Gl X x) (hm : X.mg x = some (.ref f)) (hk : PySem.W.keepIn X.K (.ref f) = true) (hb : Binds X.K fd ps []) (tk : Takes X Wx) (ha : VA X.nox (e :: es) fa) (hdb : (x == ("__debug__" : Str)) = false := by decide +kernel) (ns : NS X e es pos := by exact ⟨rfl, rfl⟩) :
    VEX X Wx (.Call (.Name x p) (e :: es) [] pos) (eFnX n g fa) := by
  obtain ⟨t, pa, sa⟩ := ha.ex
  refine ⟨_, pe_callS F hr hg hm hk hb (fun σ => passAt tk σ) (pa_nox pa) hdb ns.he ns.hpl, ?_⟩
  intro G W σ H s r s' R hf Q hq
  obtain ⟨xs, h1, h2, h3⟩ := eFnX_some hf
  refine sa G W σ H s xs s' R h1 _ fun vs H1 R1 z1 p1 => ?_
  refine ⟨Av G W, xs, r, h2, p1, R1.fre, h3, ?_⟩
  cases r with
  | ok d => exact fun v H2 sm p2 => hq v H2 (R1.same sm) (z1.trans (Fz.of_same sm)) p2
  | exc c y => exact fun H2 sm => hq H2 (R1.same sm) (z1.trans (Fz.of_same sm))
end
def outX : Option (FlX × S) → Option Rx
  | some (.exc c x, ⟨_, none⟩) => some (.exc c x)
  | some (.fl f, s) => (outV (some (f, s))).map .ok
  | _ => none
def fnX (n : Nat) (F : FsX) : List D → Option Rx := fun ds => outX (F (st0 n ds))
theorem post0X {E : Ev} {mg : Str → Option Value} {H : Hp} {O : Addr → Prop} {d : Rx} {Q : VK} {Xk : XK} {r : Option (FlX × S)} (h : outX r = some d) (q : AnsF E mg O H Q Xk d) : PostX E mg (fun cls d _ H => Xk cls d H) ⟨H, O⟩ W0 H { nx := fun _ H' => Q .non H', rt := Q } r := by
  unfold outX at h
  split at h
  · cases h
    intro W' σ' H' R z k C hC
    have l := R.left
    have sm : Same H H' := fun a o e => l.fr a o e fun ⟨t, y, _⟩ => by rw [left_none l] at y; cases y
    have w := q H' sm C hC
    split at w
    · exact w
    · exact fun dd v e rp => w dd v e (rp.weak fun a y => .inl y)
  · rw [Option.map_eq_some_iff] at h
    obtain ⟨d', h1, rfl⟩ := h
    exact post0V h1 q
  · cases h
section
variable {P : Program} {w : World} {K : PySem.W.Frag} {mg : Str → Option Value} {base : Heap} {x qual : Str} {st : Stmt} {f : Addr} {fd : FuncData} {N ps : List Str} {k : Nat} {Fb : FsX}
/-- the context of the body of a def that may raise -/
abbrev cxX (P : Program) (w : World) (K : PySem.W.Frag) (mg : Str → Option Value) (base : Heap) (N : List Str) (qual : Str) (st : Stmt) (f : Addr) (cdv : Value) (A : Around) (outer : List Env) (s : Shared) (H : Hp) (E : XK) : Cx := cxOf (L2.CX P w) P w K mg base N qual (defScope st) f cdv A outer s H E
def BodyX (P : Program) (w : World) (K : PySem.W.Frag) (mg : Str → Option Value) (base : Heap) (N : List Str) (qual : Str) (st : Stmt) (f : Addr) (k : Nat) (Fb : FsX) : Prop := ∀ (cdv : Value) (A : Around) (outer : List Env) (s : Shared) (H : Hp) (E : XK), Room k (A.deeper (PyProof.Rows.envOfC qual (defScope st) s.heap.objs.size f cdv)) →
  Takes (cxX P w K mg base N qual st f cdv A outer s H E) (fun cls d _ H => E cls d H) → PassesOwn (model P w) (cxX P w K mg base N qual st f cdv A outer s H E).A (cxX P w K mg base N qual st f cdv A outer s H E).env (cxX P w K mg base N qual st f cdv A outer s H E).xe → VBX (cxX P w K mg base N qual st f cdv A outer s H E) (fun cls d _ H => E cls d H) (defBody st) Fb
theorem fn_X (F : Fun K x qual st f fd) (S : FnScope N ps (defScope st)) (hb : BodyX P w K mg base N qual st f k Fb) : FnOk P w K mg base (L2.CX P w) (k + 1) f fd ps (spX ⟨P, w, K⟩ mg ps.length (fnX N.length Fb)) := by
  refine F.okX S (fun vs H Q E h => spX_len vs H Q E h) fun cdv A outer s H vs Q E hr h => ?_
  obtain ⟨O, ds, d, hl, rs, fr, hg, hq⟩ := h
  obtain ⟨t, p, sn⟩ := (hb cdv A outer s H E hr (takes_of rfl rfl rfl rfl) (passes_of rfl)).ex
  exact ⟨t, p, sn ⟨H, O⟩ W0 _ H _ _ (rel0 rs fr (by rw [hl]; exact ps_le S)) (post0X hg hq)⟩
end
/-! ### for, whose suite may raise -/
def loopX (g : Fg) (F : FsX) : List D → S → Option (FlX × S)
  | [], s => some (.fl .next, s)
  | d :: ds, s => (g d s).bind fun s1 => match F s1 with
    | some (.fl .next, s2) => loopX g F ds s2
    | some (.fl .cont, s2) => loopX g F ds s2
    | some (.fl .brk, s2) => some (.fl .next, s2)
    | x => x
def xFor (fi : Fa) (g : Fg) (F : FsX) : FsX := fun s => (fi s).bind fun (ds, s1) => loopX g F ds s1
theorem loopX_step {E : Ev} {mg : Str → Option Value} {Wx : WX} {t : TS} {F : FsX} {G : Cfg} {W : Wt} {H : Hp} {σ : L2.St} {s : S} {Dn : Ends} {Nx : L2.St → Hp → Prop} {r : S → Option (FlX × S)} (sn : SndSX E mg Wx t F) (R : Rel E G W H σ s)
    (po : PostX E mg Wx G W H Dn (match F s with
      | some (.fl .next, s2) => r s2
      | some (.fl .cont, s2) => r s2
      | some (.fl .brk, s2) => some (.fl .next, s2)
      | x => x))
    (hn : ∀ W' σ' H' s', Rel E G W' H' σ' s' → Fz (Av G W) (Av G W') H H' → Wk W W' → PostX E mg Wx G W' H' Dn (r s') → Nx σ' H') : t { Dn with nx := Nx, ct := Nx, bk := Dn.nx } σ H := by
  refine sn G W σ H s _ R ?_
  match e : F s, po with
  | some (.fl .next, s1), po => exact fun W' σ' H' R' z k => hn W' σ' H' s1 R' z k (PostX.back z k po)
  | some (.fl .cont, s1), po => exact fun W' σ' H' R' z k => hn W' σ' H' s1 R' z k (PostX.back z k po)
  | some (.fl .brk, s1), po => exact po
  | some (.fl (.ret d), s1), po => exact po
  | some (.fl (.retF d), s1), po => exact po
  | some (.exc c x, s1), po => exact po
  | none, po => exact po.elim
section
variable {X : Cx} {Wx : WX} {tg e : Expr} {fa : Fa} {pos : Pos}
theorem vsx_for {body : List Stmt} {g : Fg} {F : FsX} (hp : PassesOwn (model X.prog X.w) X.A X.env X.xe) (hc : X.calm = true) (hi : VI X.nox tg e fa) (hg : VG X.nox tg g) (hb : VBX X Wx body F) (hs : ∀ x, foldedSetIterable e X.env x = pure x := by intro _; rfl) :
    VSX X Wx (.For tg e body [] pos) (xFor fa g F) := by
  obtain ⟨ti, pi, si⟩ := hi.ex
  obtain ⟨tg', pg, sg⟩ := hg.ex
  obtain ⟨tb, pb, sb⟩ := hb.ex
  refine ⟨_, ps_for hp hc (pi_nox pi) (pg_nox pg) pb hs, fun G W σ H s Dn R po => ?_⟩
  unfold xFor at po
  match e1 : fa s, po with
  | none, po => exact po.elim
  | some (ds, s1), po =>
    refine si G W σ H s ds s1 R e1 _ fun J H1 Gd Y R1 z1 wl => ?_
    refine for_it wl.walk (fun i σ' H' => ∃ W' s', Rel (evX X) G W' H' σ' s' ∧ Fz (Av G W) (Av G W') H1 H' ∧ Wk W W' ∧ PostX (evX X) X.mg Wx G W' H' Dn (loopX g F (ds.drop i) s')) ⟨W, s1, R1, Fz.refl, Wk.refl, PostX.back z1 Wk.refl po⟩ ?_ ?_ ?_
    · rintro i σ' H' hi' ⟨W', s', R', z, k, _⟩
      exact wl.keep _ H' z
    · rintro i x σ' H' H'' hi' ⟨W', s', R', z, k, p⟩ hy
      obtain ⟨sm, d, hd, rd⟩ := wl.item _ i H' x H'' z R'.fre hi' hy
      have R2 := R'.same sm
      have z2 : Fz (Av G W') (Av G W') H' H'' := Fz.of_same sm
      have p2 := PostX.back z2 Wk.refl p
      rw [List.drop_eq_getElem_cons hi'] at p2
      have ed : ds[i] = d := by rw [List.getElem?_eq_getElem hi'] at hd; exact Option.some.inj hd
      rw [ed] at p2
      unfold loopX at p2
      match e2 : g d s', p2 with
      | none, p2 => exact p2.elim
      | some s2, p2 =>
        dsimp only [Option.bind] at p2
        refine sg G W' σ' H'' s' x d s2 R2 rd e2 _ fun W3 σ3 R3 a3 k3 => ?_
        have p3 := PostX.back (Fz.weak a3 : Fz (Av G W') (Av G W3) H'' H'') k3 p2
        exact loopX_step sb R3 p3 fun W4 σ4 H4 s4 R4 z4 k4 p4 => ⟨W4, s4, R4, ((z.trans z2).trans (Fz.weak a3)).trans z4, (k.trans k3).trans k4, p4⟩
    · rintro σ' H' ⟨W', s', R', z, k, p⟩
      rw [List.drop_length] at p
      exact p W' σ' H' R' Fz.refl Wk.refl
end
/-! ### a caught exception is kept -/
/-- an exception object of the class cls at a -/
def ExT (cls : Value) (d : Option Addr) (a : Addr) : HO := .ext fun h => ∃ (oe : Obj) (vs : Array Value), h.get? a = some oe ∧ Zc cls d oe ∧ oe.data = .fields vs
theorem exT_ok {P : Program} {w : World} {H : Hp} {h : Heap} {a : Addr} {cls : Value} {d : Option Addr} {oe : Obj} {vs : Array Value} (e : h.get? a = some oe) (z : Zc cls d oe) (hd : oe.data = .fields vs) : ObjOk P w H h a (ExT cls d a) :=
  ⟨⟨oe, vs, e, z, hd⟩, ⟨oe, e⟩, fun _ _ ⟨o, v, q, r⟩ k => ⟨o, v, k o q, r⟩⟩
theorem inv_track {X : Cx} {pins : List (Addr × Obj)} {σ : L2.St} {H : Hp} {s : Shared} {a : Addr} {oe : Obj} {vs : Array Value} {cls : Value} {d : Option Addr} (I : Inv X pins σ H s) (ha : s.heap.get? a = some oe) (hz : Zc cls d oe) (hd : oe.data = .fields vs) (na : H a = none) (nL : a ≠ X.env.locals) (nP : ∀ p ∈ X.pn ++ pins, p.1 ≠ a) (n0 : X.s_0.heap.get? a = none) :
    Inv X pins σ (upd H a (ExT cls d a)) s where
  ok := I.ok
  os := I.os
  bare := I.bare
  base := ⟨I.base.keep, I.base.slot, fun b o e n hx => by rw [upd_ne (fun z => by rw [z, n0] at e; cases e)]; exact I.base.free b o e n hx, I.base.there, fun b xs e => by
      have q := I.base.tups b xs e
      rw [upd_ne (ne_of_none q na)]; exact q, fun b o u e => by
      have q := I.base.frzs b o u e
      rw [upd_ne (ne_of_none q na)]; exact q, fun b p e => by
      obtain ⟨m, q⟩ := I.base.tbls b p e
      exact ⟨m, by rw [upd_ne (ne_of_none q na)]; exact q⟩⟩
  loc := I.loc
  cell := I.cell
  free := by rw [upd_ne (Ne.symm nL)]; exact I.free
  freeC := fun x c e => by
    obtain ⟨v, o, ho, hc⟩ := I.cell x c e
    have ne : c ≠ a := fun z => by
      rw [z, ha] at ho
      cases ho
      rw [hd] at hc
      cases hc
    rw [upd_ne ne]
    exact I.freeC x c e
  pin := fun p hp => by
    obtain ⟨e, n, ne, nf, q⟩ := I.pin p hp
    exact ⟨e, by rw [upd_ne (nP p hp)]; exact n, ne, nf, q⟩
  hok := I.hok.laidN (fun _ _ e => e) na (exT_ok ha hz hd)
  len := I.len
/-- what 'except x as n' wishes, the exception kept behind it -/
def wKeep (K : PySem.W.Frag) (c : Value) (i : Nat) (ts : Addr → Value → Option Addr → TS) (Wout : WX) (Dn : Ends) : WX := fun cls d σ H =>
  ∃ b, PySem.W.exmOne K cls c = some b ∧ (b = true → ∀ a, H a = none → ts a cls d { nx := fun σ' H' => H' a = none → Dn.nx (σ'.set i none) (upd H' a (ExT cls d a)), rt := Dn.rt, bk := fun σ' H' => Dn.bk (σ'.set i none) H', ct := fun σ' H' => Dn.ct (σ'.set i none) H' } (σ.set i (some (.ref a))) H) ∧
    (b = false → Wout cls d σ H)
section
variable {X : Cx} {x n : Str} {c : Value} {i : Nat} {body suite : List Stmt} {b₀ : Stmt} {np pos pos' : Pos} {tb : WX → TS} {ts : Addr → Value → Option Addr → TS} {Wout : WX}
theorem ps_try_keep (hs : X.stack = X.env :: X.outer) (hf : X.env.frame = some X.env.locals) (hex : X.ex = []) (hN : X.N.Nodup) (hi : X.N[i]? = some n) (hln : X.env.kindOf n = some .local) (hc : Names X x c) (tk : Takes X Wout)
    (hb : ∀ (W : WX) (pn : List (Addr × Obj)) (xe : Value → Shared → Prop), Takes (X.tr pn xe) W → PassesOwn (model X.prog X.w) X.A X.env xe → PSs (X.tr pn xe) body (tb W))
    (hsu : ∀ (a : Addr) (oe : Obj) (cls : Value) (d : Option Addr) (pn : List (Addr × Obj)), Zc cls d oe → (∃ vs, oe.data = .fields vs) → PSs (X.suite a ((a, oe) :: pn)) (b₀ :: suite) (ts a cls d)) :
    PS X (.Try body [.ExceptHandler (some (.Name x np)) (some n) (b₀ :: suite) pos'] [] [] pos) (fun D σ H => tb (wKeep X.K c i ts Wout D) D σ H) := by
  refine ⟨fun pins s σ H D I h => ?_⟩
  have ok := I.ok
  have hfr : X.A.frames = some (X.env :: X.outer) := by rw [ok.frames, hs]
  have hloc : Loc X.env.scope n := .inl hln
  refine wpAny_Try_except ?_
  refine wpAny_mono ((hb (wKeep X.K c i ts Wout D) (X.pn ++ pins) (fun e s₁ => wpAny (model X.prog X.w) X.A (noteFrame e X.env) (fun _ s₂ => wpAny (model X.prog X.w) X.A (setFlight e none) (fun _ s₃ =>
    wpAny (model X.prog X.w) X.A (handleBy e X.env [.ExceptHandler (some (.Name x np)) (some n) (b₀ :: suite) pos']) (SP X pins D) X.xe s₃) X.xe s₂) X.xe s₁) (fun u s' xx => ?_) PassesOwn.looking).run [] s σ H D (I.toTry _) h) (fun f s1 hsp => ?_) (fun e s1 he => he)
  · obtain ⟨a, B, sI, pins', σ', H', cls, d, rfl, J', nb, up, sky, na, os, ag, b, hb1, hyes, hno⟩ := xx
    have J : Inv X pins σ' H' sI := J'.ofTry ok
    have sky' : Sky B (X.env :: X.outer) a (Zc cls d) X.env.locals s'.heap := by rw [← hs]; exact sky
    show wpAny (model X.prog X.w) X.A (noteFrame (.ref a) X.env) _ _ _
    refine Sky.land Zc.steady hfr hf sky' fun h3 fl3 up3 => ?_
    have J3 : Inv X pins σ' H' { s' with heap := h3 } := J.landed nb fl3.1 (up.trans up3) os ag
    obtain ⟨oe3, vs3, he3, hz3, hd3⟩ := fl3.there
    have notFr : ∀ {h : Heap} {o : Obj} {vs : Array Value}, h.FunFrames B (X.env :: X.outer) → h.get? a = some o → o.data = .fields vs → a ∉ frs (X.env :: X.outer) := fun {h o vs} ff e dd hm => by
      obtain ⟨_, o', e', hnf⟩ := ff.mem hm
      rw [e] at e'; cases e'
      exact hnf _ dd
    have nfr := notFr fl3.2.2.1 he3 hd3
    have nL : a ≠ X.env.locals := fun z => nfr (List.mem_filterMap.mpr ⟨X.env, List.mem_cons_self, by rw [hf, z]⟩)
    have nF : a ∉ X.fs := fun hm => by
      obtain ⟨e, he, q⟩ := List.mem_filterMap.mp hm
      exact nfr (List.mem_filterMap.mpr ⟨e, List.mem_cons_of_mem _ he, q⟩)
    have Bn : B.get? a = none := fl3.2.1
    have inB : ∀ b o, sI.heap.get? b = some o → b ∉ frs X.stack → b ≠ a := fun b o e hb z => by
      have := nb b o e hb
      rw [z, Bn] at this
      cases this
    have nP : ∀ p ∈ X.pn ++ pins, p.1 ≠ a := fun p hp => by
      obtain ⟨e, _, ne, nf, _⟩ := J.pin p hp
      refine inB _ _ e fun hm => ?_
      rcases List.mem_cons.mp (J.stkSub _ hm) with z | z
      · exact ne z
      · exact nf z
    have n0 : X.s_0.heap.get? a = none := by
      cases e : X.s_0.heap.get? a with
      | none => rfl
      | some o =>
        obtain ⟨o', e1⟩ := J.base.there a o e (by rw [hex]; exact fun z => nomatch z)
        exact absurd rfl (inB a o' e1 (by rw [hs]; exact nfr))
    have S3 := J3.suite he3 hd3 na nL nF
    refine wpAny_handleBy_cons (codeAny_handlers_test ?_) (by intro q; cases q)
    have LT : PySem.W.Looks (model X.prog X.w) h3 (typeOf (.ref a)) cls := fun A Q E s k q => wpAny_typeOf_ref (k _ _ he3) (by rw [hz3.1]; exact q)
    have LM := PySem.W.exm_one (M := model X.prog X.w) (J3.kIn) LT hb1
    have test : ∀ {Q : Value → Shared → Prop} {E : Value → Shared → Prop}, Q c { s' with heap := h3 } → wpAny (model X.prog X.w) (X.A.mark (some (.ref a))) (eval (.Name x np) X.env) Q E { s' with heap := h3 } := fun {Q E} q => by
      obtain ⟨hg, hdbg, hm | ⟨hm, hv, hnn⟩⟩ := hc
      · exact ld_glob (X := X.suite a ((a, oe3) :: (X.pn ++ pins))) S3 hg hm q hdbg
      · exact ld_blt (X := X.suite a ((a, oe3) :: (X.pn ++ pins))) S3 hg hm hv q hnn hdbg
    refine test (LM.here ?_)
    cases b with
    | true =>
      refine codeAny_handlers_suite_as ?_
      refine HandSPX.lands_againZ fl3 fun h4 fl4 up4 => ?_
      have J4 : Inv X pins σ' H' { s' with heap := h4 } := J.landed nb fl4.1 ((up.trans up3).trans up4) os ag
      obtain ⟨oe4, vs4, he4, hz4, hd4⟩ := fl4.there
      have S4 := J4.suite he4 hd4 na nL nF
      refine store_ok (X := X.suite a ((a, oe4) :: (X.pn ++ pins))) (v := .ref a) S4 hN hi hloc rfl (fun s5 S5 => ?_) (.inr hln)
      refine wpAny_mono ((hsu a oe4 cls d (X.pn ++ pins) hz4 ⟨_, hd4⟩).run [] s5 _ H' _ S5 (hyes rfl a na)) (fun f s6 hsp => ?_) (fun _ _ z => False.elim z)
      cases f with
      | next =>
        obtain ⟨σ6, H6, S6, q6⟩ := hsp
        obtain ⟨g6, n6, _⟩ := S6.pin (a, oe4) (List.mem_append.mpr (.inl List.mem_cons_self))
        exact gone_ok (inv_track (S6.unsuite ok) g6 hz4 hd4 n6 nL nP n0) hN hi hln fun s7 J7 => ⟨_, _, J7, q6 n6⟩
      | brk =>
        obtain ⟨σ6, H6, S6, q6⟩ := hsp
        exact gone_ok (S6.unsuite ok) hN hi hln fun s7 J7 => ⟨_, _, J7, q6⟩
      | cont =>
        obtain ⟨σ6, H6, S6, q6⟩ := hsp
        exact gone_ok (S6.unsuite ok) hN hi hln fun s7 J7 => ⟨_, _, J7, q6⟩
      | ret u =>
        obtain ⟨v6, σ6, H6, S6, r6, q6⟩ := hsp
        exact gone_ok (S6.unsuite ok) hN hi hln fun s7 J7 => ⟨_, _, _, J7, r6, q6⟩
    | false =>
      show wpAny _ X.A (handleBy (.ref a) X.env []) _ _ _
      refine wpAny_handleBy_nil ?_
      obtain ⟨k1, k2, k3, oe, vs, T, oT, ts', he, hz, hd, h1, hr⟩ := id fl3
      unfold PySem.passOn
      refine wpAny_bind (wpAny_field he hd h1 ?_)
      rw [if_neg (show ¬ ((Value.ref T == Value.none) = true) from by simp)]
      have fin : wpAny (model X.prog X.w) X.A (setFlight (.ref a) X.env.frame) (fun _ s4 => wpAny (model X.prog X.w) X.A (throw (.ref a) : Sem Flow) (SP X pins D) X.xe s4) X.xe { s' with heap := h3 } := by
        rw [hf]
        refine HandSPX.setFlight_upZ fl3 fun h4 hh4 up4 => wpAny_throw (tk _ _ ?_)
        exact ⟨a, B, sI, pins, σ', H', cls, d, rfl, J, nb, (up.trans up3).trans up4, .inr (.inr (by rw [hs]; exact hh4)), na, os, ag, hno rfl⟩
      first
        | exact wpAny_bind (wpAny_pure (wpAny_bind fin))
        | exact wpAny_bind fin
  · cases f with
    | next =>
      obtain ⟨σ', H', J', q⟩ := hsp
      exact wpAny_execs_nil ⟨σ', H', J'.ofTry ok, q⟩
    | brk =>
      obtain ⟨σ', H', J', q⟩ := hsp
      exact ⟨σ', H', J'.ofTry ok, q⟩
    | cont =>
      obtain ⟨σ', H', J', q⟩ := hsp
      exact ⟨σ', H', J'.ofTry ok, q⟩
    | ret u =>
      obtain ⟨v, σ', H', J', r, q⟩ := hsp
      exact ⟨v, σ', H', J'.ofTry ok, r, q⟩
end
end Fx
-- Fy3
namespace Fx
open PySem PySem.Spec L2
/-! ### xs.count(d), xs.index(d) of data -/
def rCntD (K : PySem.W.Frag) : V → List V → Hp → VK → Prop := fun x xs H Q => ∃ (a : Addr) (y : V) (d : PyData) (ds : List PyData), x = V.ref a ∧ xs = [y] ∧ Dp K H (V.ref a) (.list ds) ∧ Dp K H y d ∧ PyData.plainAll ds = true ∧ d.plain = true ∧ d.depth ≤ 60 ∧ Q (.int ((ds.countP fun y => PyData.eqv y d : Nat) : Int)) H
theorem mt_countD {X : Cx} (hu : X.A.units + 64 < cLine) : MtR X "list.count" (rCntD X.K) := by
  intro pins s σ H x xs v us Q I rx rxs h
  obtain ⟨a, y, d, ds, rfl, rfl, hl, hy, pl, pd, dp, q⟩ := h
  cases rx
  cases rxs with
  | cons ry rt =>
    rename_i uy ut
    cases rt
    obtain ⟨bs, r1⟩ := Dp.reads I d y uy hy ry
    cases hl with
    | lst hs ha =>
      obtain ⟨its, rv, ⟨o, n, ho, hc, hdn, hdt⟩, hlen⟩ := I.list hs
      obtain ⟨as, h4⟩ := Dp.readsAll I ds _ its ha rv
      refine SeqAt.count_list_data (l := a) (vs := its.toArray) (xs := ds) (as := as) (bs := bs) ⟨o, ho, hc, n, hdt⟩ (by simpa using h4) r1 pl pd (by have := Nat.min_le_right (PyData.depthAll ds) d.depth; omega) ?_
      exact ⟨.int _, H, I.tok _, ⟨s.toks, rfl⟩, q⟩
def cntD : D → D → Option D
  | .list ds, d => if PyData.plainAll ds = true ∧ d.plain = true ∧ d.depth ≤ 60 ∧ d.canLay0 = true ∧ PyData.canLayAll0 ds = true then some (.int ((ds.countP fun y => PyData.eqv y d : Nat) : Int)) else none
  | _, _ => none
def idxDD : D → D → Option D
  | .list ds, d => if SeqAt.shaped (.list ds) = true ∧ SeqAt.shaped d = true then (ds.findIdx? fun y => PyData.eqv y d).map fun j => .int (j : Nat) else none
  | _, _ => none
section
variable {X : Cx} {o e : Expr} {apos cpos : Pos} {f1 f2 : Fe}
theorem ve_count (ho : VE X o f1) (he : VE X e f2) (hu : X.A.units + 64 < cLine) (nm : NM X o "count" e [] apos cpos) : VE X (.Call (.Attribute o "count" apos) [e] [] cpos) (eBin cntD f1 f2) := by
  obtain ⟨ta, pa, sa⟩ := ho.ex
  obtain ⟨tb, pb, sb⟩ := he.ex
  refine ⟨_, pe_bm PySem.F.plainAttrs_list PySem.F.slot_list_count PySem.F.type_list_count (mt_countD hu) pa (pa_cons pb pa_nil nm.hs) nm.hbase nm.hfew nm.hline nm.hs nm.hplain, ?_⟩
  intro G W σ H s d s' R hf Q hq
  obtain ⟨x, s1, y, h1, h2, h3⟩ := eBin_some hf
  unfold cntD at h3
  split at h3
  · rename_i ds
    split at h3
    · rename_i hh
      cases h3
      refine sa G W σ H s _ s1 R h1 _ fun v1 H1 R1 z1 p1 => ?_
      cases p1 with
      | lst n1 e1 r1 =>
        rename_i a xs
        refine ⟨.inl ⟨rfl, _, SqL.of e1⟩, sb G W σ H1 s1 _ s' R1 h2 _ fun v2 H2 R2 z2 p2 => ?_⟩
        have q1 : Rep (evX X) (Av G W) H2 (.ref a) (.list ds) := (Rep.lst n1 e1 r1).fz z2
        exact ⟨a, v2, y, ds, rfl, rfl, q1.dp (by simpa [PyData.canLay0] using hh.2.2.2.2), p2.dp hh.2.2.2.1, hh.1, hh.2.1, hh.2.2.1, hq _ H2 R2 (z1.trans z2) (.int _)⟩
    · cases h3
  · cases h3
theorem ve_indexD (ho : VE X o f1) (he : VE X e f2) (hu : X.A.units + 65 < cLine) (nm : NM X o "index" e [] apos cpos) : VE X (.Call (.Attribute o "index" apos) [e] [] cpos) (eBin idxDD f1 f2) := by
  obtain ⟨ta, pa, sa⟩ := ho.ex
  obtain ⟨tb, pb, sb⟩ := he.ex
  refine ⟨_, pe_bm PySem.F.plainAttrs_list PySem.F.slot_list_index PySem.F.type_list_index (mt_indexD hu) pa (pa_cons pb pa_nil nm.hs) nm.hbase nm.hfew nm.hline nm.hs nm.hplain, ?_⟩
  intro G W σ H s d s' R hf Q hq
  obtain ⟨x, s1, y, h1, h2, h3⟩ := eBin_some hf
  unfold idxDD at h3
  split at h3
  · rename_i ds
    split at h3
    · rename_i hh
      rw [Option.map_eq_some_iff] at h3
      obtain ⟨j, hj, rfl⟩ := h3
      refine sa G W σ H s _ s1 R h1 _ fun v1 H1 R1 z1 p1 => ?_
      cases p1 with
      | lst n1 e1 r1 =>
        rename_i a xs
        refine ⟨.inl ⟨rfl, _, SqL.of e1⟩, sb G W σ H1 s1 _ s' R1 h2 _ fun v2 H2 R2 z2 p2 => ?_⟩
        have q1 : Rep (evX X) (Av G W) H2 (.ref a) (.list ds) := (Rep.lst n1 e1 r1).fz z2
        obtain ⟨hlt, hp, hno⟩ := List.findIdx?_eq_some_iff_getElem.mp hj
        refine ⟨a, v2, y, ds, j, ds[j], rfl, rfl, q1.dp (SeqAt.canLay_of_shaped hh.1), p2.dp (SeqAt.canLay_of_shaped hh.2), hh.1, hh.2, List.getElem?_eq_getElem hlt, hp, fun m z' hm hz => ?_, hq _ H2 R2 (z1.trans z2) (.int _)⟩
        obtain ⟨hml, rfl⟩ := List.getElem?_eq_some_iff.mp hz
        simpa using hno m hm
    · cases h3
  · cases h3
end
/-! ### isinstance(caught, c) -/
/-- a tracked exception of the class D, its own dict there if it has one -/
def ExK (H : Hp) (a D : Addr) : Prop := ∃ od : Option Addr, H a = some (ExT (.ref D) od a) ∧ match od with
  | none => True
  | some dd => ∃ fs, H dd = some (.xd fs)
theorem ExK.none {H : Hp} {a D : Addr} (h : H a = some (ExT (.ref D) none a)) : ExK H a D := ⟨_, h, trivial⟩
theorem ExK.own {H : Hp} {a D dd : Addr} {fs : List (Str × V)} (h : H a = some (ExT (.ref D) (some dd) a)) (hd : H dd = some (.xd fs)) : ExK H a D := ⟨_, h, fs, hd⟩
theorem ExK.keep {H H' : Hp} {a D : Addr} (h : ExK H a D) (k : ∀ b o, H b = some o → H' b = some o) : ExK H' a D := by
  obtain ⟨od, h1, h2⟩ := h
  refine ⟨od, k _ _ h1, ?_⟩
  match od, h2 with
  | .none, _ => trivial
  | some dd, ⟨fs, e⟩ => exact ⟨fs, k _ _ e⟩
def rIsX (K : PySem.W.Frag) : List V → Hp → VK → Prop := fun xs H Q => ∃ (a D : Addr) (c : V) (cv : Value) (b : Bool), xs = [.ref a, c] ∧ ExK H a D ∧ ExcC K D ∧ (∀ u, RelV c u → u = cv) ∧ PySem.W.kitOne K (.ref D) cv = some b ∧ Q (.bl b) H
theorem call_isX {X : Cx} : CallR X (.builtin "isinstance") (rIsX X.K) := by
  intro pins s σ H xs us Q I r h
  obtain ⟨a, D, c, cv, b, rfl, ha, C, hcv, e, q⟩ := h
  cases r with
  | cons rx rr =>
    cases rr with
    | cons rt rr =>
      cases rr
      cases rx
      have ec := hcv _ rt
      subst ec
      obtain ⟨od, ha, hdd⟩ := ha
      obtain ⟨⟨oe, vs, hget, hz, hv⟩, _⟩ := I.hok a _ ha
      obtain ⟨oo, J⟩ : ∃ oo, PySem.W.InstAt s.heap a oe D oo := by
        obtain ⟨oc, od', oda, osl⟩ := oe
        obtain ⟨h1, h2⟩ := hz
        dsimp only at h1 h2 hv
        subst h1 h2 hv
        match od', hdd with
        | .none, _ => exact ⟨.none, hget, rfl, rfl, trivial⟩
        | some dd, ⟨fs, hd⟩ =>
          obtain ⟨mA, ⟨o, _, _, ho, _⟩, _⟩ := I.hok dd _ hd
          exact ⟨some o, hget, rfl, rfl, ho⟩
      have hcl : (PySem.W.clsIn X.K D).isSome = true := by
        obtain ⟨cd, hc, _⟩ := PySem.W.any_some C.hd
        rw [hc]
        rfl
      exact PySem.W.kia_one (PySem.W.kitx_exc hcl C.hg C.hk C.hs C.ha C.hn C.ht C.hm) I.kIn J e (fun z => nomatch z) fun tk => ⟨.bl b, H, I.kept (t' := tk) fun _ _ z => z, rfl, q⟩
/-- isinstance(slot 0, c) -/
abbrev tIs (K : PySem.W.Frag) (c : V) : TE := tCB (rIsX K) (tCons (tVar 0) (tCons (tC c) tNil))
theorem pe_isX {X : Cx} {x c : Str} {u : Value} {cv : V} {p1 p2 p3 pos : Pos} (hN : X.N[0]? = some x) (hx : Vis X.env.scope x) (hg : Gl X "isinstance") (hm : X.mg "isinstance" = none) (hgc : Gl X c) (hmc : X.mg c = some u) (r : RelV cv u) (hd : (x == ("__debug__" : Str)) = false := by decide +kernel) (hcd : (x == ("__classdict__" : Str)) = false := by decide +kernel)
    (hd2 : (c == ("__debug__" : Str)) = false := by decide +kernel) (hs : starEach [.Name c p3] X.env = (false, eval (.Name c p3) X.env) :: starEach [] X.env := by rfl) (ns : NS X (.Name x p2) [.Name c p3] pos := by exact ⟨rfl, rfl⟩) :
    PE X (.Call (.Name "isinstance" p1) [.Name x p2, .Name c p3] [] pos) (tIs X.K cv) :=
  pe_callB call_isX hg hm (by decide +kernel) (pa_cons (pe_var hN hx hd hcd) (pa_cons (pe_glob hgc hmc r hd2) pa_nil hs) ns.he) (by decide) (by decide) ns.he ns.hpl
theorem pe_isXB {X : Cx} {x c : Str} {T : String} {p1 p2 p3 pos : Pos} (hN : X.N[0]? = some x) (hx : Vis X.env.scope x) (hg : Gl X "isinstance") (hm : X.mg "isinstance" = none) (hgc : Gl X c) (hmc : X.mg c = none) (hv : bootBuiltins c = some (.type T) := by decide +kernel) (hn : c ≠ "__name__" := by decide +kernel) (hd : (x == ("__debug__" : Str)) = false := by decide +kernel) (hcd : (x == ("__classdict__" : Str)) = false := by decide +kernel)
    (hd2 : (c == ("__debug__" : Str)) = false := by decide +kernel) (hs : starEach [.Name c p3] X.env = (false, eval (.Name c p3) X.env) :: starEach [] X.env := by rfl) (ns : NS X (.Name x p2) [.Name c p3] pos := by exact ⟨rfl, rfl⟩) :
    PE X (.Call (.Name "isinstance" p1) [.Name x p2, .Name c p3] [] pos) (tIs X.K (.ty T)) :=
  pe_callB call_isX hg hm (by decide +kernel) (pa_cons (pe_var hN hx hd hcd) (pa_cons (pe_bltn (v := .ty T) hgc hmc hv rfl hn hd2) pa_nil hs) ns.he) (by decide) (by decide) ns.he ns.hpl
/-- what is known of the exception's class: which of the classes it is of -/
structure Row (K : PySem.W.Frag) (D : Addr) (cs : List V) (bs : List Bool) : Prop where
  c : ExcC K D
  k : ∀ (i : Nat) (v : V) (b : Bool), cs[i]? = some v → bs[i]? = some b → ∃ cv, (∀ u, RelV v u → u = cv) ∧ PySem.W.kitOne K (.ref D) cv = some b
theorem is_read {K : PySem.W.Frag} {D a : Addr} {cs : List V} {bs : List Bool} (T : Row K D cs bs) {σ : L2.St} {H : Hp} {Q : VK} (i : Nat) {v : V} {b : Bool} (h0 : σ[0]? = some (some (.ref a))) (ha : ExK H a D) (hv : cs[i]? = some v) (hb : bs[i]? = some b) (q : Q (.bl b) H) : tIs K v σ H Q := by
  obtain ⟨cv, h1, h2⟩ := T.k i v b hv hb
  exact ⟨_, h0, a, D, v, cv, b, rfl, ha, T.c, h1, h2, q⟩
end Fx
-- Fy4
namespace Fx
open PySem PySem.Spec L2
/-! ### the name of a refusal -/
theorem same_upd {H H' : Hp} {p : Addr} {o : HO} (k : Same H H') (h : H' p = none) : Same H (upd H' p o) := fun b u e => by
  have e' := k b u e
  rw [upd_ne (ne_of_none e' h)]
  exact e'
theorem rel_list {E : Ev} {H : Hp} {v : V} {p : Addr} {bs : List Bool} (e : H p = some (.lst (bs.map V.bl))) : Rel E ⟨fun _ => none, fun _ => False⟩ W0 H [some v, some (.ref p)] ⟨[.any, .val (.list (bs.map PyData.bool))], none⟩ := by
  have na : ∀ a, ¬ Av ⟨fun _ => none, fun _ => False⟩ W0 a := fun a => by
    rintro (z | ⟨i, z⟩ | ⟨t, z, _⟩)
    · exact z
    · cases z
    · cases z
  have reps : ∀ bs : List Bool, Reps E (Av ⟨fun _ => none, fun _ => False⟩ W0) H (bs.map V.bl) (bs.map PyData.bool) := fun bs => by
    induction bs with
    | nil => exact .nil
    | cons b bs ih => exact .cons (.bl b) ih
  have two : ∀ {i : Nat} {c : C}, ([C.any, C.val (.list (bs.map PyData.bool))] : List C)[i]? = some c → (i = 0 ∧ c = .any) ∨ (i = 1 ∧ c = .val (.list (bs.map PyData.bool))) := fun {i c} h => by
    match i, h with
    | 0, h => simp at h; exact .inl ⟨rfl, h.symm⟩
    | 1, h => simp at h; exact .inr ⟨rfl, h.symm⟩
    | i + 2, h => simp at h
  exact {
    len := rfl
    fr := fun a o h _ => nomatch h
    val := fun i d h => by
      rcases two h with ⟨_, z⟩ | ⟨rfl, z⟩
      · cases z
      · cases z
        exact ⟨_, rfl, .lst (na p) e (reps bs)⟩
    own := fun i d h => by rcases two h with ⟨_, z⟩ | ⟨_, z⟩ <;> cases z
    dom := fun i a h => nomatch h
    inj := fun i j a h => nomatch h
    obj := fun a h => h.elim
    tow := trivial
    tnc := fun i h => by rcases two h with ⟨_, z⟩ | ⟨_, z⟩ <;> cases z
    rwc := fun i h => by rcases two h with ⟨_, z⟩ | ⟨_, z⟩ <;> cases z
    noc := fun i h => by rcases two h with ⟨_, z⟩ | ⟨_, z⟩ <;> cases z }
theorem na0 (a : Addr) : ¬ Av ⟨fun _ => none, fun _ => False⟩ W0 a := by
  rintro (z | ⟨i, z⟩ | ⟨t, z, _⟩)
  · exact z
  · cases z
  · cases z
def refSt (bs : List Bool) : S := ⟨[.any, .val (.list (bs.map PyData.bool))], none⟩
def ReadsR (K : PySem.W.Frag) (cs : List V) (f4 f5 : Fe) (t : TS) : Prop := ∀ (a D : Addr) (b0 b1 b2 b3 b4 b5 b6 b7 : Bool) (z : Str) (H : Hp) (Q : VK), Row K D cs [b0, b1, b2, b3, b4, b5, b6, b7, true, true] →
  f4 (refSt [b0, b1, b2, b3, b4, b5, b6, b7]) = some (.bool false, refSt [b0, b1, b2, b3, b4, b5, b6, b7]) → f5 (refSt [b0, b1, b2, b3, b4, b5, b6, b7]) = some (.str z, refSt [b0, b1, b2, b3, b4, b5, b6, b7]) →
  ExK H a D → (∀ H', Same H H' → Q (.str z) H') → t { nx := fun _ H' => Q .non H', rt := Q } [some (.ref a), none] H
theorem ref_body {X : Cx} {y : Str} {g0 g1 g2 g3 g4 g5 g6 g7 g8 g9 cnt ret : Expr} {l0 l1 l2 l3 l4 l5 l6 l7 l8 l9 : List Expr} {q0 q1 q2 q3 q4 q5 q6 q7 q8 q9 : Pos} {c0 c1 c2 c3 c4 c5 c6 c7 c8 c9 : V} {f4 f5 : Fe}
    {p1 p2 p3 p4 p5 p6 p7 p8 p9 p10 p11 p12 p13 p14 p15 p16 p17 p18 p19 p20 : Pos} {j : Nat} {odd : Str}
    (hN : X.N.Nodup) (hi : X.N[1]? = some y) (hy : Loc X.env.scope y) (hv : Vis X.env.scope y) (hd : (y == ("__debug__" : Str)) = false) (hcd : (y == ("__classdict__" : Str)) = false) (hf : X.fn y = true ∨ X.env.scope.names.lookup y = some .local)
    (e0 : PE X (.Call g0 l0 [] q0) (tIs X.K c0)) (e1 : PE X (.Call g1 l1 [] q1) (tIs X.K c1)) (e2 : PE X (.Call g2 l2 [] q2) (tIs X.K c2)) (e3 : PE X (.Call g3 l3 [] q3) (tIs X.K c3)) (e4 : PE X (.Call g4 l4 [] q4) (tIs X.K c4)) (e5 : PE X (.Call g5 l5 [] q5) (tIs X.K c5)) (e6 : PE X (.Call g6 l6 [] q6) (tIs X.K c6)) (e7 : PE X (.Call g7 l7 [] q7) (tIs X.K c7)) (e8 : PE X (.Call g8 l8 [] q8) (tIs X.K c8)) (e9 : PE X (.Call g9 l9 [] q9) (tIs X.K c9))
    (ht8 : ∀ whole, isTrue (.Call g8 l8 [] q8) X.env whole = (do let v ← whole; standAt (Expr.Call g8 l8 [] q8).pos; holding [v] (truthy v))) (ht9 : ∀ whole, isTrue (.Call g9 l9 [] q9) X.env whole = (do let v ← whole; standAt (Expr.Call g9 l9 [] q9).pos; holding [v] (truthy v)))
    (hc : VT X cnt f4) (hr : VE X ret f5)
    (s1 : swapsWith (.List [.Call g0 l0 [] q0, .Call g1 l1 [] q1, .Call g2 l2 [] q2] p1) (some (.Name y p2)) p3.line X.env = pure false)
    (s2 : swapsWith (.BinOp (.Name y p4) .Add (.List [.Call g3 l3 [] q3, .Call g4 l4 [] q4, .Call g5 l5 [] q5] p5) p6) (some (.Name y p7)) p8.line X.env = pure false)
    (s3 : swapsWith (.BinOp (.Name y p9) .Add (.List [.Call g6 l6 [] q6, .Call g7 l7 [] q7] p10) p11) (some (.Name y p12)) p13.line X.env = pure false) :
    ∃ t, PSs X [.Assign [.Name y p2] (.List [.Call g0 l0 [] q0, .Call g1 l1 [] q1, .Call g2 l2 [] q2] p1) p3,
      .Assign [.Name y p7] (.BinOp (.Name y p4) .Add (.List [.Call g3 l3 [] q3, .Call g4 l4 [] q4, .Call g5 l5 [] q5] p5) p6) p8,
      .Assign [.Name y p12] (.BinOp (.Name y p9) .Add (.List [.Call g6 l6 [] q6, .Call g7 l7 [] q7] p10) p11) p13,
      .If (.BoolOp .Or [cnt, .UnaryOp .Not (.Call g8 l8 [] q8) p14, .UnaryOp .Not (.Call g9 l9 [] q9) p15] p16) [.Return (some (.Constant (.str odd) j p17)) p18] [] p19,
      .Return (some ret) p20] t ∧ ReadsR X.K [c0, c1, c2, c3, c4, c5, c6, c7, c8, c9] f4 f5 t := by
  obtain ⟨t4, pc, sc⟩ := hc.ex
  obtain ⟨t5, pr, sr⟩ := hr.ex
  refine ⟨_, pss_cons (ps_set (i := 1) hN hi hy (pe_lst (pa_cons e0 (pa_cons e1 (pa_cons e2 pa_nil rfl) rfl) rfl)) s1 hf)
    (pss_cons (ps_set (i := 1) hN hi hy (pe_op op_cat (pe_var hi hv hd hcd) (pe_lst (pa_cons e3 (pa_cons e4 (pa_cons e5 pa_nil rfl) rfl) rfl))) s2 hf)
    (pss_cons (ps_set (i := 1) hN hi hy (pe_op op_cat (pe_var hi hv hd hcd) (pe_lst (pa_cons e6 (pa_cons e7 pa_nil rfl) rfl))) s3 hf)
    (pss_cons (ps_if (pw_or pc (pw_or (pt_not (pt_val e8 ht8)) (pw_or1 (pt_not (pt_val e9 ht9))))).pt (pss_one (ps_ret pe_str)) pss_nil)
    (pss_one (ps_ret pr))))), ?_⟩
  intro a D b0 b1 b2 b3 b4 b5 b6 b7 z H Q T h4 h5 ha hq
  -- sorts = [..]
  refine is_read T 0 rfl ha rfl rfl (is_read T 1 rfl ha rfl rfl (is_read T 2 rfl ha rfl rfl ⟨by rw [sizeLine_eq]; simp, fun p np => ?_⟩))
  have sm1 : Same H (upd H p (.lst [.bl b0, .bl b1, .bl b2])) := same_upd (Same.refl H) np
  have ha1 := ha.keep sm1
  -- sorts = sorts + [..]
  refine ⟨_, rfl, is_read T 3 rfl ha1 rfl rfl (is_read T 4 rfl ha1 rfl rfl (is_read T 5 rfl ha1 rfl rfl ⟨by rw [sizeLine_eq]; simp, fun p' np' => ?_⟩))⟩
  have sm2 : Same H (upd (upd H p (.lst [.bl b0, .bl b1, .bl b2])) p' (.lst [.bl b3, .bl b4, .bl b5])) := same_upd sm1 np'
  refine ⟨p, p', [.bl b0, .bl b1, .bl b2], [.bl b3, .bl b4, .bl b5], rfl, rfl, by rw [upd_ne (ne_of_none upd_same np')]; exact upd_same, upd_same, by rw [sizeLine_eq]; simp, fun r nr => ?_⟩
  have sm3 := same_upd (o := .lst ([.bl b0, .bl b1, .bl b2] ++ [.bl b3, .bl b4, .bl b5])) sm2 nr
  have ha3 := ha.keep sm3
  refine ⟨_, rfl, is_read T 6 rfl ha3 rfl rfl (is_read T 7 rfl ha3 rfl rfl ⟨by rw [sizeLine_eq]; simp, fun r' nr' => ?_⟩)⟩
  have sm4 := same_upd (o := .lst [.bl b6, .bl b7]) sm3 nr'
  refine ⟨r, r', [.bl b0, .bl b1, .bl b2] ++ [.bl b3, .bl b4, .bl b5], [.bl b6, .bl b7], rfl, rfl, by rw [upd_ne (ne_of_none upd_same nr')]; exact upd_same, upd_same, by rw [sizeLine_eq]; simp, fun u nu => ?_⟩
  have sm5 := same_upd (o := .lst (([.bl b0, .bl b1, .bl b2] ++ [.bl b3, .bl b4, .bl b5]) ++ [.bl b6, .bl b7])) sm4 nu
  have ha5 := ha.keep sm5
  -- the test
  refine sc ⟨fun _ => none, fun _ => False⟩ W0 _ _ (refSt [b0, b1, b2, b3, b4, b5, b6, b7]) false (refSt [b0, b1, b2, b3, b4, b5, b6, b7]) (rel_list (bs := [b0, b1, b2, b3, b4, b5, b6, b7]) upd_same) h4 _ fun H6 R6 z6 => ?_
  have ha6 := ha5.keep fun b o e => (z6 b o (na0 b) e).2
  have sm6 : Same H H6 := fun b o e => (z6 b o (na0 b) (sm5 b o e)).2
  rw [if_neg Bool.false_ne_true]
  refine is_read T 8 rfl ha6 rfl rfl ⟨true, rfl, ?_⟩
  dsimp only
  rw [if_neg (by decide)]
  refine is_read T 9 rfl ha6 rfl rfl ⟨true, rfl, ?_⟩
  dsimp only
  rw [if_neg (by decide)]
  refine sr _ W0 _ _ _ _ _ R6 h5 _ fun v H7 R7 z7 p7 => ?_
  cases p7
  exact hq H7 fun b o e => (z7 b o (na0 b) (sm6 b o e)).2
/-- what _law_refusal promises -/
def spR (mg : Str → Option Value) (g : Str → Option Str) : Sp := fun vs H Q _ => ∃ (a C : Addr) (c z : Str), vs = [.ref a] ∧ ExK H a C ∧ mg c = some (.ref C) ∧ g c = some z ∧ ∀ H', Same H H' → Q (.str z) H'
/-- the classes, by name, and what the def says of them -/
structure Tab (K : PySem.W.Frag) (mg : Str → Option Value) (cs : List V) (f4 f5 : Fe) (g : Str → Option Str) : Prop where
  row : ∀ (c z : Str) (C : Addr), mg c = some (.ref C) → g c = some z → ∃ b0 b1 b2 b3 b4 b5 b6 b7, Row K C cs [b0, b1, b2, b3, b4, b5, b6, b7, true, true] ∧ f4 (refSt [b0, b1, b2, b3, b4, b5, b6, b7]) = some (.bool false, refSt [b0, b1, b2, b3, b4, b5, b6, b7]) ∧ f5 (refSt [b0, b1, b2, b3, b4, b5, b6, b7]) = some (.str z, refSt [b0, b1, b2, b3, b4, b5, b6, b7])
theorem fn_R {P : Program} {w : World} {K : PySem.W.Frag} {mg : Str → Option Value} {base : Heap} {x qual y n : Str} {st : Stmt} {f : Addr} {fd : FuncData} {k : Nat} {cs : List V} {f4 f5 : Fe} {g : Str → Option Str} (F : Fun K x qual st f fd) (S : FnScope [n, y] [n] (defScope st)) (T : Tab K mg cs f4 f5 g)
    (hb : ∀ (cdv : Value) (A : Around) (outer : List Env) (s : Shared) (H : Hp) (E : XK), Room k (A.deeper (PyProof.Rows.envOfC qual (defScope st) s.heap.objs.size f cdv)) → ∃ t, PSs (cxB P w K mg base [n, y] qual st f cdv A outer s H E) (defBody st) t ∧ ReadsR K cs f4 f5 t) :
    FnOk P w K mg base CX0 (k + 1) f fd [n] (spR mg g) := by
  refine F.ok S (fun vs H Q E h => ?_) fun cdv A outer s H vs Q E hr h => ?_
  · obtain ⟨a, C, c, z, rfl, _⟩ := h
    rfl
  · obtain ⟨a, C, c, z, rfl, ha, hc, hg, hq⟩ := h
    obtain ⟨t, p, q⟩ := hb cdv A outer s H E hr
    obtain ⟨b0, b1, b2, b3, b4, b5, b6, b7, R, h4, h5⟩ := T.row c z C hc hg
    exact ⟨t, p, q a C b0 b1 b2 b3 b4 b5 b6 b7 z H Q R h4 h5 ha hq⟩
/-! ### try, and what is told behind it -/
def sTry1 (i j : Nat) (told : Str) (F : FsX) (g : Str → Option Str) : Fs := fun s => match F s with
  | some (.fl .next, s1) => match s1.rho[j]? with
    | some (.val .none) => some (.ret (.str told), s1)
    | _ => none
  | some (.exc c _, s1) => if i < s1.rho.length ∧ j < s1.rho.length then (g c).map fun z => (.ret (.str z), s1) else none
  | _ => none
def tbX (E : Ev) (mg : Str → Option Value) (F : FsX) (W : WX) : TS := fun Dn σ H => ∃ G Wt s, Rel E G Wt H σ s ∧ PostX E mg W G Wt H Dn (F s)
theorem vbx_tb {X : Cx} {W : WX} {b : List Stmt} {F : FsX} (h : VBX X W b F) : PSs X b (tbX (evX X) X.mg F W) := by
  obtain ⟨t, p, sn⟩ := h.ex
  exact ⟨fun pins s σ H D I ⟨G, Wt, s0, R, po⟩ => p.run pins s σ H D I (sn G Wt σ H s0 D R po)⟩
section
variable {X : Cx} {x n m rf told : Str} {CW : Addr} {i j k : Nat} {body : List Stmt} {np pos pos' p1 p2 p3 p4 p5 p6 p7 p8 p9 p10 p11 p12 : Pos} {j1 j2 : Nat} {Fb : FsX} {g : Str → Option Str} {f : Addr} {fd : FuncData}
theorem vb_try1 (hs : X.stack = X.env :: X.outer) (hfr : X.env.frame = some X.env.locals) (hex : X.ex = []) (hN : X.N.Nodup) (hi : X.N[i]? = some n) (hj : X.N[j]? = some m) (hij : i ≠ j) (hln : X.env.kindOf n = some .local) (hlm : Loc X.env.scope m) (hvn : Vis X.env.scope n) (hvm : Vis X.env.scope m)
    (dn : (n == ("__debug__" : Str)) = false) (cn : (n == ("__classdict__" : Str)) = false) (dm : (m == ("__debug__" : Str)) = false) (cm : (m == ("__classdict__" : Str)) = false) (hfm : X.fn m = true ∨ X.env.scope.names.lookup m = some .local)
    (hx : Names X x (.ref CW)) (hcl : ∀ c C z, X.mg c = some (.ref C) → g c = some z → PySem.W.exmOne X.K (.ref C) (.ref CW) = some true)
    (hb : ∀ (W : WX) (pn : List (Addr × Obj)) (xe : Value → Shared → Prop), Takes (X.tr pn xe) W → PassesOwn (model X.prog X.w) X.A X.env xe → VBX (X.tr pn xe) W body Fb)
    (FR : FnOk X.prog X.w X.K X.mg X.base CX0 k f fd [rf] (spR X.mg g)) (hr : Room k X.A) {rn : Str} (hgR : Gl X rn) (hmR : X.mg rn = some (.ref f)) (hkR : PySem.W.keepIn X.K (.ref f) = true) (hbR : Binds X.K fd [rf] []) (hdR : (rn == ("__debug__" : Str)) = false)
    (hsw : ∀ (a : Addr) (oe : Obj) (pn : List (Addr × Obj)), swapsWith (.Name n p2) (some (.Name m p1)) p3.line (X.suite a ((a, oe) :: pn)).env = pure false)
    (hse : starEach [.Name m p8] X.env = (false, eval (.Name m p8) X.env) :: starEach [] X.env) (hpl : ((backTo p9 (starEach ([] : List Expr) X.env)).any (·.1)) = false) :
    VB X [.Try body [.ExceptHandler (some (.Name x np)) (some n) [.Assign [.Name m p1] (.Name n p2) p3] pos'] [] [] pos,
      .Return (some (.IfExp (.Compare (.Name m p4) [.Is] [.Constant .none j1 p5] p6) (.Constant (.str told) j2 p7) (.Call (.Name rn p10) [.Name m p8] [] p9) p11)) p12] (sTry1 i j told Fb g) := by
  refine ⟨_, pss_cons (ps_try_keep (Wout := fun _ _ _ _ => False) (tb := tbX (evX X) X.mg Fb) hs hfr hex hN hi hln hx takes_none5 (fun W pn xe tk po => vbx_tb (hb W pn xe tk po))
      (fun a oe cls d pn _ _ => pss_one (ps_set (i := j) hN hj hlm (pe_var hi hvn dn cn) (hsw a oe pn) hfm)))
    (pss_one (ps_ret (pe_ifExp (pt_cmpR (op_isN.or op_isBl) (pe_var hj hvm dm cm) pe_non (nomark _)) pe_str (pe_call FR hr hgR hmR hkR hbR .nil pass0 (pa_cons (pe_var hj hvm dm cm) pa_nil hse) hdR hse hpl)))), ?_⟩
  intro G W σ H s Dn R po
  refine ⟨G, W, s, R, ?_⟩
  unfold sTry1 at po
  match e : Fb s, po with
  | none, po => exact po.elim
  | some (.fl .brk, s1), po => exact po.elim
  | some (.fl .cont, s1), po => exact po.elim
  | some (.fl (.ret d), s1), po => exact po.elim
  | some (.fl (.retF d), s1), po => exact po.elim
  | some (.fl .next, s1), po =>
    intro W' σ' H' R' z kk
    dsimp only at po
    split at po
    · rename_i ej
      obtain ⟨v, ev, rv⟩ := R'.val j _ ej
      cases rv
      refine ⟨.non, ev, .inl ⟨rfl, true, by simp, ?_⟩⟩
      dsimp only
      rw [if_pos rfl]
      exact po W' _ H' R'.left kk (.str told)
    · exact po.elim
  | some (.exc c x, s1), po =>
    intro W' σ' H' R' z kk C hC
    dsimp only at po
    split at po
    rotate_left
    · exact po.elim
    rename_i hlt
    match eg : g c, po with
    | none, po => exact po.elim
    | some w, po =>
      cases x with
      | none =>
        refine ⟨true, hcl c C w hC eg, fun _ a na => ?_, fun y => nomatch y⟩
        have hil : i < σ'.length := by rw [← R'.len]; exact hlt.1
        have hjl : j < σ'.length := by rw [← R'.len]; exact hlt.2
        refine ⟨.ref a, by rw [List.getElem?_set_self hil], fun na' => ?_⟩
        refine ⟨.ref a, by rw [List.getElem?_set_ne hij, List.getElem?_set_self (by simpa using hjl)], .inl ⟨rfl, false, by simp, ?_⟩⟩
        dsimp only
        rw [if_neg Bool.false_ne_true]
        refine ⟨.ref a, by rw [List.getElem?_set_ne hij, List.getElem?_set_self (by simpa using hjl)], ?_⟩
        refine ⟨a, C, c, w, rfl, .none upd_same, hC, eg, fun H'' sm => ?_⟩
        have l := R'.left
        have k0 : ∀ b o, H' b = some o → H'' b = some o := fun b o e => sm b o (by rw [upd_ne (ne_of_none e na')]; exact e)
        refine po W' _ H'' ⟨fun b o h1 h2 => k0 b o (l.fr b o h1 h2), l.tow.same fun b o _ e => k0 b o e⟩ kk (.str w)
      | some d =>
        intro dd v hdd _
        refine ⟨true, hcl c C w hC eg, fun _ a na => ?_, fun y => nomatch y⟩
        have hil : i < σ'.length := by rw [← R'.len]; exact hlt.1
        have hjl : j < σ'.length := by rw [← R'.len]; exact hlt.2
        refine ⟨.ref a, by rw [List.getElem?_set_self hil], fun na' => ?_⟩
        refine ⟨.ref a, by rw [List.getElem?_set_ne hij, List.getElem?_set_self (by simpa using hjl)], .inl ⟨rfl, false, by simp, ?_⟩⟩
        dsimp only
        rw [if_neg Bool.false_ne_true]
        refine ⟨.ref a, by rw [List.getElem?_set_ne hij, List.getElem?_set_self (by simpa using hjl)], ?_⟩
        refine ⟨a, C, c, w, rfl, .own upd_same (by rw [upd_ne (ne_of_none hdd na')]; exact hdd), hC, eg, fun H'' sm => ?_⟩
        have l := R'.left
        have k0 : ∀ b o, H' b = some o → H'' b = some o := fun b o e => sm b o (by rw [upd_ne (ne_of_none e na')]; exact e)
        refine po W' _ H'' ⟨fun b o h1 h2 => k0 b o (l.fr b o h1 h2), l.tow.same fun b o _ e => k0 b o e⟩ kk (.str w)
end
end Fx
-- Fy5
namespace Fx
open PySem PySem.Spec L2
/-! ### tests that may raise -/
def AnsT (E : Ev) (G : Cfg) (W : Wt) (mg : Str → Option Value) (Wx : WX) (σ : L2.St) (H : Hp) (s' : S) (Q : Bool → Hp → Prop) : Rx → Prop
  | .ok (.bool b) => ∀ H', Rel E G W H' σ s' → Fz (Av G W) (Av G W) H H' → Q b H'
  | .ok _ => False
  | .exc c x => ∀ H', Rel E G W H' σ s' → Fz (Av G W) (Av G W) H H' → XOk E (Av G W) mg (fun cls d H => Wx cls d σ H) c x H'
def SndTX (E : Ev) (mg : Str → Option Value) (Wx : WX) (t : TT) (f : FeX) : Prop := ∀ G W σ H s r s', Rel E G W H σ s → f s = some (r, s') → ∀ Q : Bool → Hp → Prop, AnsT E G W mg Wx σ H s' Q r → t σ H Q
structure VTX (X : Cx) (Wx : WX) (e : Expr) (f : FeX) : Prop where
  ex : ∃ t, PT X e t ∧ SndTX (evX X) X.mg Wx t f
section
variable {X : Cx} {Wx : WX} {a b c : Expr} {F1 F2 : FsX} {f1 fx : FeX} {f2 : Fe} {s1 s2 : List Stmt} {pos : Pos}
theorem snd_testX {E : Ev} {mg : Str → Option Value} {t : TE} (h : SndEX E mg Wx t fx) : SndTX E mg Wx (tTest t) fx := by
  intro G W σ H s r s' R hf Q hq
  refine h G W σ H s r s' R hf _ ?_
  cases r with
  | exc c x => exact hq
  | ok d =>
    cases d with
    | bool b => exact fun v H1 R1 z1 p1 => by cases p1; exact ⟨b, rfl, hq H1 R1 z1⟩
    | _ => exact hq.elim
theorem vtx_isnt (ha : VEX X Wx a f1) (hb : VE X.nox b f2) : VTX X Wx (.Compare a [.IsNot] [b] pos) (eBinX isntD f1 f2) := by
  obtain ⟨ta, pa, sa⟩ := ha.ex
  obtain ⟨tb, pb, sb⟩ := hb.ex
  exact ⟨_, pt_cmpR (op_notN.or op_notBl) pa pb.nox (nomark _), snd_testX (snd_opX sa sb sr_isnt.r)⟩
theorem vsx_ifX (hc : VTX X Wx c fx) (h1 : VBX X Wx s1 F1) (h2 : VBX X Wx s2 F2) : VSX X Wx (.If c s1 s2 pos) (xIfX fx F1 F2) := by
  obtain ⟨tc, pc, sc⟩ := hc.ex
  obtain ⟨t, p, sn⟩ := h1.ex
  obtain ⟨u, q, sm⟩ := h2.ex
  refine ⟨_, ps_if pc p q, fun G W σ H s Dn R po => ?_⟩
  unfold xIfX xBind at po
  match e : fx s, po with
  | none, po => exact po.elim
  | some (.exc c x, r1), po => exact sc G W σ H s _ r1 R e _ fun H1 R1 z1 => po W σ H1 R1 z1 Wk.refl
  | some (.ok (.bool true), r1), po =>
    refine sc G W σ H s _ r1 R e _ fun H1 R1 z1 => ?_
    rw [if_pos rfl]
    exact sn G W σ H1 r1 Dn R1 (PostX.back z1 Wk.refl po)
  | some (.ok (.bool false), r1), po =>
    refine sc G W σ H s _ r1 R e _ fun H1 R1 z1 => ?_
    rw [if_neg Bool.false_ne_true]
    exact sm G W σ H1 r1 Dn R1 (PostX.back z1 Wk.refl po)
  | some (.ok .none, r1), po => exact po.elim
  | some (.ok (.int _), r1), po => exact po.elim
  | some (.ok (.str _), r1), po => exact po.elim
  | some (.ok (.list _), r1), po => exact po.elim
  | some (.ok (.tuple _), r1), po => exact po.elim
  | some (.ok (.dict _), r1), po => exact po.elim
end
/-! ### calls with keywords that may raise, in a def's own suite -/
section
variable {X : Cx} {E0' : XK} {k n : Nat} {f : Addr} {fd : FuncData} {ps ks : List Str} {g : List D → Option Rx} {x : Str} {p pos kpos : Pos} {e : Expr} {es : List Expr} {kws : List Keyword} {fa fk : Fa}
theorem pk_nox {ks : List Keyword} {t : TA} (h : PK X.nox ks t) : PK X ks t := ⟨fun pos pins s σ H Q I hw =>
  wpAny_mono (h.run pos pins s σ H Q (I.wish _) hw) (fun _ _ ⟨v, H', I', r, q⟩ => ⟨v, H', I'.unwish, r, q⟩) fun _ _ z => False.elim z⟩
def eFnKX (n m : Nat) (g : List D → Option Rx) (fa fk : Fa) : FeX := fun s => (fa s).bind fun (xs, s1) => (fk s1).bind fun (ys, s2) => if xs.length = n ∧ ys.length = m then (g (xs ++ ys)).map fun z => (z, s2) else none
theorem vex_fnK {nn : Nat} (F : FnOk X.prog X.w X.K X.mg X.base (L2.CX X.prog X.w) k f fd ps (spX (evX X) X.mg nn g)) (hr : Room k X.A) (hg : Gl X x) (hm : X.mg x = some (.ref f)) (hk : PySem.W.keepIn X.K (.ref f) = true) (hb : KBn X.K fd ps n ks (· ++ ·) (· ++ ·)) (tk : Takes X (fun cls d _ H => E0' cls d H)) (ha : VA X.nox (e :: es) fa) (hw : VKw X.nox kws fk) (hn : n + ks.length = nn)
    (hall : (backToKw pos (keywordEach kws X.env)).all (·.1.isSome) = true := by rfl) (hks : (backToKw pos (keywordEach kws X.env)).filterMap (·.1) = ks := by rfl)
    (hdb : (x == ("__debug__" : Str)) = false := by decide +kernel) (he : starEach (e :: es) X.env = (false, eval e X.env) :: starEach es X.env := by rfl)
    (hpl : ((backTo pos (starEach (e :: es) X.env)).any (·.1) || (backToKw pos (keywordEach kws X.env)).any (·.1.isNone)) = false := by rfl) :
    VEX X (fun cls d _ H => E0' cls d H) (.Call (.Name x p) (e :: es) kws pos) (eFnKX n ks.length g fa fk) := by
  obtain ⟨t, pa, sa⟩ := ha.ex
  obtain ⟨u, pk, sk⟩ := hw.ex
  refine ⟨_, pe_callN F hr hg hm hk hb (passes_call tk fun _ _ _ _ h => h) (pa_nox pa) (pk_nox pk) hall hks hdb he hpl, ?_⟩
  intro G W σ H s r s' R hf Q hq
  unfold eFnKX at hf
  simp only [Option.bind_eq_some_iff] at hf
  obtain ⟨⟨xs, s1⟩, h1, ⟨ys, s2⟩, h2, h3⟩ := hf
  dsimp only at h3
  split at h3
  · rename_i hl
    simp only [Option.map_eq_some_iff] at h3
    obtain ⟨zz, h4, h5⟩ := h3
    obtain ⟨rfl, rfl⟩ := Prod.mk.inj h5
    refine sa G W σ H s xs s1 R h1 _ fun vs H1 R1 z1 p1 => ?_
    refine sk G W σ H1 s1 ys _ R1 h2 _ fun zs H2 R2 z2 p2 => ⟨by rw [p1.length]; exact hl.1, by rw [p2.length]; exact hl.2, ?_⟩
    refine ⟨Av G W, xs ++ ys, zz, by rw [List.length_append, hl.1, hl.2]; exact hn, (p1.fz z2).append p2, R2.fre, h4, ?_⟩
    cases zz with
    | ok d => exact fun v H3 sm p3 => hq v H3 (R2.same sm) ((z1.trans z2).trans (Fz.of_same sm)) p3
    | exc c y => exact fun H3 sm => hq H3 (R2.same sm) ((z1.trans z2).trans (Fz.of_same sm))
  · cases h3
end
/-! ### the table of classes -/
theorem row10 {K : PySem.W.Frag} {D C0 C1 C2 C3 C4 C5 C6 C7 C8 : Addr} {T9 : String} {b0 b1 b2 b3 b4 b5 b6 b7 : Bool} (c : ExcC K D) (k0 : PySem.W.kitOne K (.ref D) (.ref C0) = some b0) (k1 : PySem.W.kitOne K (.ref D) (.ref C1) = some b1) (k2 : PySem.W.kitOne K (.ref D) (.ref C2) = some b2) (k3 : PySem.W.kitOne K (.ref D) (.ref C3) = some b3) (k4 : PySem.W.kitOne K (.ref D) (.ref C4) = some b4)
    (k5 : PySem.W.kitOne K (.ref D) (.ref C5) = some b5) (k6 : PySem.W.kitOne K (.ref D) (.ref C6) = some b6) (k7 : PySem.W.kitOne K (.ref D) (.ref C7) = some b7) (k8 : PySem.W.kitOne K (.ref D) (.ref C8) = some true) (k9 : PySem.W.kitOne K (.ref D) (.type T9) = some true) :
    Row K D [.ref C0, .ref C1, .ref C2, .ref C3, .ref C4, .ref C5, .ref C6, .ref C7, .ref C8, .ty T9] [b0, b1, b2, b3, b4, b5, b6, b7, true, true] := by
  refine ⟨c, fun i v b hv hb => ?_⟩
  match i, hv, hb with
  | 0, hv, hb => cases hv; cases hb; exact ⟨_, fun u r => r, k0⟩
  | 1, hv, hb => cases hv; cases hb; exact ⟨_, fun u r => r, k1⟩
  | 2, hv, hb => cases hv; cases hb; exact ⟨_, fun u r => r, k2⟩
  | 3, hv, hb => cases hv; cases hb; exact ⟨_, fun u r => r, k3⟩
  | 4, hv, hb => cases hv; cases hb; exact ⟨_, fun u r => r, k4⟩
  | 5, hv, hb => cases hv; cases hb; exact ⟨_, fun u r => r, k5⟩
  | 6, hv, hb => cases hv; cases hb; exact ⟨_, fun u r => r, k6⟩
  | 7, hv, hb => cases hv; cases hb; exact ⟨_, fun u r => r, k7⟩
  | 8, hv, hb => cases hv; cases hb; exact ⟨_, fun u r => r, k8⟩
  | 9, hv, hb => cases hv; cases hb; exact ⟨_, fun u r => r, k9⟩
  | i + 10, hv, hb => simp at hv
def tabF (l : List (Str × Str)) (c : Str) : Option Str := (l.find? fun p => p.1 == c).map (·.2)
theorem tabF_mem {l : List (Str × Str)} {c z : Str} (h : tabF l c = some z) : (c, z) ∈ l := by
  unfold tabF at h
  rw [Option.map_eq_some_iff] at h
  obtain ⟨⟨c', z'⟩, h1, h2⟩ := h
  have e : (c' == c) = true := List.find?_some (p := fun p : Str × Str => p.1 == c) h1
  have e2 : c' = c := beq_iff_eq.mp e
  have h3 : z' = z := h2
  rw [← e2, ← h3]
  exact List.mem_of_find?_eq_some h1
end Fx
-- Fy6
namespace Fx
open PySem PySem.Spec L2
structure GCls (mg : Str → Option Value) (c : Str) (C : Addr) : Prop where
  g : mg c = some (.ref C)
theorem kit_ref {K : PySem.W.Frag} {D C : Addr} {b : Bool} (hd : PySem.W.hasDictIn K C = true) (ht : PySem.W.typeIn K (.ref C) = some (.type "type")) (self : PySem.W.subIn K (.ref D) (.ref D) = some true) (h : PySem.W.subIn K (.ref D) (.ref C) = some b) : PySem.W.kitOne K (.ref D) (.ref C) = some b := by
  unfold PySem.W.kitOne
  split
  · rename_i e
    have e2 : (Value.ref D) = .ref C := beq_iff_eq.mp e
    cases e2
    rw [self] at h
    exact h
  · obtain ⟨cd, hc, _⟩ := PySem.W.any_some hd
    show (if ((PySem.W.clsIn K C).isSome && PySem.W.typeIn K (.ref C) == some (.type "type")) = true then PySem.W.subIn K (.ref D) (.ref C) else none) = _
    rw [if_pos (by rw [hc, ht]; rfl)]
    exact h
theorem kit_tyV {K : PySem.W.Frag} {D : Addr} {T : String} {b : Bool} (hm : PySem.W.kitMeta T = true) (h : PySem.W.subIn K (.ref D) (.type T) = some b) : PySem.W.kitOne K (.ref D) (.type T) = some b := by
  unfold PySem.W.kitOne
  rw [if_neg (by simp)]
  show (if PySem.W.kitMeta T = true then PySem.W.subIn K (.ref D) (.type T) else none) = _
  rw [if_pos hm]
  exact h
/-! ### f(e), e may raise -/
def eFnX1 (g : List D → Option Rx) (f : FeX) : FeX := fun s => match f s with
  | some (.ok d, s1) => (g [d]).map fun z => (z, s1)
  | some (.exc c x, s1) => some (.exc c x, s1)
  | none => none
section
variable {X : Cx} {Wx : WX} {k : Nat} {f : Addr} {fd : FuncData} {ps : List Str} {g : List D → Option Rx} {x : Str} {p pos : Pos} {e : Expr} {fx : FeX}
theorem vex_fn1 (F : FnOk X.prog X.w X.K X.mg X.base (L2.CX X.prog X.w) k f fd ps (spX (evX X) X.mg 1 g)) (hr : Room k X.A) (hg : Gl X x) (hm : X.mg x = some (.ref f)) (hk : PySem.W.keepIn X.K (.ref f) = true) (hb : Binds X.K fd ps []) (tk : Takes X Wx) (ha : VEX X Wx e fx) (hdb : (x == ("__debug__" : Str)) = false := by decide +kernel) (ns : NS X e [] pos := by exact ⟨rfl, rfl⟩) :
    VEX X Wx (.Call (.Name x p) [e] [] pos) (eFnX1 g fx) := by
  obtain ⟨t, pa, sa⟩ := ha.ex
  refine ⟨_, pe_callS F hr hg hm hk hb (fun σ => passAt tk σ) (pa_cons pa pa_nil ns.he) hdb ns.he ns.hpl, ?_⟩
  intro G W σ H s r s' R hf Q hq
  unfold eFnX1 at hf
  match e1 : fx s, hf with
  | none, hf => cases hf
  | some (.exc c x, s1), hf =>
    cases hf
    exact sa G W σ H s _ _ R e1 _ fun H1 R1 z1 => hq H1 R1 z1
  | some (.ok d, s1), hf =>
    simp only [Option.map_eq_some_iff] at hf
    obtain ⟨zz, h4, h5⟩ := hf
    obtain ⟨rfl, rfl⟩ := Prod.mk.inj h5
    refine sa G W σ H s _ _ R e1 _ fun v H1 R1 z1 p1 => ?_
    refine ⟨Av G W, [d], zz, rfl, .cons p1 .nil, R1.fre, h4, ?_⟩
    cases zz with
    | ok d => exact fun v H2 sm p2 => hq v H2 (R1.same sm) (z1.trans (Fz.of_same sm)) p2
    | exc c y => exact fun H2 sm => hq H2 (R1.same sm) (z1.trans (Fz.of_same sm))
end
end Fx
-- Fy7
namespace Fx
open PySem PySem.Spec L2
/-! ### an exception with a field: its __init__, its raising -/
def spI (K : PySem.W.Frag) (fl : Str) : Sp := fun vs H Q _ => ∃ (a C : Addr) (y : V), vs = [.ref a, y] ∧ OexC K C ∧ PySem.W.findIn K (.ref C) fl = some none ∧ H a = some (exo a C none) ∧ ∀ dx, H dx = none → dx ≠ a → Q .non (upd (upd H dx (exd dx [(fl, y)])) a (exo a C (some dx)))
section
variable {P : Program} {w : World} {K : PySem.W.Frag} {mg : Str → Option Value} {base : Heap} {x qual fl : Str} {st : Stmt} {f : Addr} {fd : FuncData} {p1 p2 p3 p4 : Pos}
theorem fn_I (F : Fun K x qual st f fd) (S : FnScope ["self", fl] ["self", fl] (defScope st)) (hb : defBody st = [.Assign [.Attribute (.Name "self" p1) fl p2] (.Name fl p3) p4]) (v0 : Vis (defScope st) "self") (v1 : Vis (defScope st) fl) (d1 : (fl == ("__debug__" : Str)) = false := by decide) (d2 : (fl == ("__classdict__" : Str)) = false := by decide) : FnOk P w K mg base CX0 1 f fd ["self", fl] (spI K fl) := by
  refine F.ok (k := 0) S (fun vs H Q E ⟨a, C, y, h, _⟩ => by rw [h]; rfl) fun cdv A outer s H vs Q E hr h => ?_
  obtain ⟨a, C, y, rfl, T, hf, ha, hq⟩ := h
  rw [hb]
  refine ⟨_, pss_one (ps_ost (pe_var (i := 0) rfl v0) (pe_var (i := 1) rfl v1 d1 d2) rfl), y, rfl, .ref a, rfl, a, C, rfl, T, hf, .inl ⟨ha, hq⟩⟩
end
def xRaiseO (c : Str) (fa : Fa) : FsX := fun s => match fa s with
  | some ([d], s1) => some (.exc c (some d), s1)
  | _ => none
structure XOwn (K : PySem.W.Frag) (mg : Str → Option Value) (c fl : Str) (C fI : Addr) : Prop where
  o : OexC K C
  g : mg c = some (.ref C)
  i : PySem.W.findIn K (.ref C) "__init__" = some (some (.ref fI))
  t : PySem.W.typeIn K (.ref fI) = some (.type "function")
  f : PySem.W.findIn K (.ref C) fl = some none
section
variable {X : Cx} {Wx : WX} {e : Expr} {fa : Fa} {p pos p3 : Pos}
theorem vsx_raiseO {c : Str} {C fI : Addr} {fd : FuncData} (T : XOwn X.K X.mg c "standing" C fI) (F1 : FnOk X.prog X.w X.K X.mg X.base CX0 1 fI fd ["self", "standing"] (spI X.K "standing")) (hr : Room 2 X.A) (hb : Binds X.K fd ["self", "standing"] []) (hc : X.calm = true) (tk : Takes X Wx) (hg : Gl X c) (ha : VA X.nox [e] fa) (hdb : (c == ("__debug__" : Str)) = false := by decide +kernel) (ns : NS X e [] pos := by exact ⟨rfl, rfl⟩) :
    VSX X Wx (.Raise (some (.Call (.Name c p) [e] [] pos)) none p3) (xRaiseO c fa) := by
  obtain ⟨t, pa, sa⟩ := ha.ex
  refine ⟨_, ps_raise hc tk (pmk_oex T.o T.i T.t F1 hr hb .nil pass0 hg T.g (pa_nox pa) hdb ns.he ns.hpl), fun G W σ H s Dn R po => ?_⟩
  unfold xRaiseO at po
  split at po
  · rename_i d s1 e1
    refine sa G W σ H s [d] s1 R e1 _ fun vs H1 R1 z1 p1 => ?_
    obtain ⟨y, rfl⟩ : ∃ y, vs = [y] := by
      have := p1.length
      match vs, this with
      | [y], _ => exact ⟨y, rfl⟩
    refine ⟨by simp, fun a ha => ⟨a, C, y, rfl, T.o, T.f, upd_same, fun dx hdx hne => ⟨rfl, dx, [("standing", y)], upd_same, by rw [upd_ne hne, upd_same], by rw [upd_ne hne] at hdx; exact hdx, ?_⟩⟩⟩
    rw [upd_ne hne] at hdx
    have eH : upd (del (upd (upd (upd H1 a (exo a C none)) dx (exd dx [("standing", y)])) a (exo a C (some dx))) a) dx (.xd [("standing", y)]) = upd H1 dx (.xd [("standing", y)]) := by
      funext b
      by_cases h1 : b = dx
      · subst h1; rw [upd_same, upd_same]
      · rw [upd_ne h1, upd_ne h1]
        by_cases h2 : b = a
        · subst h2; rw [del_same, ha]
        · rw [del_ne h2, upd_ne h2, upd_ne h1, upd_ne h2]
    rw [eH]
    have sm : Same H1 (upd H1 dx (.xd [("standing", y)])) := fun b u hb => by rw [upd_ne (ne_of_none hb hdx)]; exact hb
    have rp : Reps (evX X) (Av G W) (upd H1 dx (.xd [("standing", y)])) [y] [d] := p1.fz (Fz.of_same sm)
    exact po W σ _ (R1.same sm) (z1.trans (Fz.of_same sm)) Wk.refl C T.g dx y upd_same (by cases rp; assumption)
  · exact po.elim
end
end Fx
-- Fy8
namespace Fx
open PySem PySem.Spec L2
/-! ### a def that raises, its last parameter () where it lacks -/
def eFnEX (n : Nat) (g : List D → Option Rx) (fa : Fa) : FeX := fun s => (fa s).bind fun (xs, s1) => if xs.length = n then (g (xs ++ [.tuple []])).map fun z => (z, s1) else none
section
variable {X : Cx} {Wx : WX} {k n nn : Nat} {f a0 : Addr} {fd : FuncData} {ps : List Str} {g : List D → Option Rx} {x : Str} {p pos : Pos} {e : Expr} {es : List Expr} {fa : Fa}
theorem vex_fnE (F : FnOk X.prog X.w X.K X.mg X.base (L2.CX X.prog X.w) k f fd ps (spX (evX X) X.mg nn g)) (hr : Room k X.A) (hg : Gl X x) (hm : X.mg x = some (.ref f)) (hk : PySem.W.keepIn X.K (.ref f) = true) (hb : ∃ ds, Vals [V.ref a0] ds ∧ Binds X.K fd ps ds) (ht : KT0 X.K a0) (tk : Takes X Wx) (ha : VA X.nox (e :: es) fa) (hn : n + 1 = nn) (hdb : (x == ("__debug__" : Str)) = false := by decide +kernel) (ns : NS X e es pos := by exact ⟨rfl, rfl⟩) :
    VEX X Wx (.Call (.Name x p) (e :: es) [] pos) (eFnEX n g fa) := by
  obtain ⟨t, pa, sa⟩ := ha.ex
  obtain ⟨ds, hd, hb⟩ := hb
  refine ⟨_, pe_callSD F hr hg hm hk hb hd (fun σ => passAt tk σ) (pa_nox pa) hdb ns.he ns.hpl, ?_⟩
  intro G W σ H s r s' R hf Q hq
  unfold eFnEX at hf
  simp only [Option.bind_eq_some_iff] at hf
  obtain ⟨⟨xs, s1⟩, h1, h3⟩ := hf
  dsimp only at h3
  split at h3
  · rename_i hl
    simp only [Option.map_eq_some_iff] at h3
    obtain ⟨z, h4, h5⟩ := h3
    cases h5
    refine sa G W σ H s xs _ R h1 _ fun vs H1 R1 z1 p1 => ?_
    refine ⟨Av G W, xs ++ [.tuple []], r, by rw [List.length_append, hl]; exact hn, p1.append (.cons (.tup (.inr ⟨rfl, ht⟩) .nil) .nil), R1.fre, h4, ?_⟩
    cases r with
    | ok d => exact fun v H2 sm p2 => hq v H2 (R1.same sm) (z1.trans (Fz.of_same sm)) p2
    | exc c y => exact fun H2 sm => hq H2 (R1.same sm) (z1.trans (Fz.of_same sm))
  · cases h3
end
/-! ### where only the raising is read -/
def eOnly (f : FeX) : FeX := fun s => match f s with
  | some (.exc c x, s1) => some (.exc c x, s1)
  | _ => none
theorem snd_only {E : Ev} {mg : Str → Option Value} {Wx : WX} {t : TE} {f : FeX} (sn : SndEX E mg Wx t f) : SndEX E mg Wx (fun σ H _ => t σ H fun _ _ => False) (eOnly f) := by
  intro G W σ H s r s' R hf Q hq
  unfold eOnly at hf
  split at hf
  · rename_i c x s1 e1
    cases hf
    exact sn G W σ H s _ _ R e1 _ hq
  · cases hf
section
variable {X : Cx} {Wx : WX} {e elt tg iter : Expr} {ifs : List Expr} {rest : List Comprehension} {scope : Scope} {own : List (Str × Nat)} {pos p : Pos} {f : FeX}
theorem vro_len (h : VEX X Wx e f) (hg : Gl X "len") (hm : X.mg "len" = none) (ns : NS X e [] pos := by exact ⟨rfl, rfl⟩) : VEX X Wx (.Call (.Name "len" p) [e] [] pos) (eOnly f) := by
  obtain ⟨t, pe, sn⟩ := h.ex
  refine ⟨_, pe_callB (r := fun _ _ _ => False) (id := "len") (fun _ _ _ _ _ _ _ _ _ z => z.elim) hg hm (by decide +kernel) (pa_cons pe pa_nil ns.he) (by decide) (by decide) ns.he ns.hpl, ?_⟩
  exact snd_only sn
theorem vro_comp (h : VEX X Wx iter f) (ok : BlkOk X.N X.env.scope scope own) (ha : ∀ c ∈ rest, c.is_async = 0 := by decide) (hs : ∀ x, foldedSetIterable iter X.env x = pure x := by intro _; rfl) : VEX X Wx (.ListComp elt (⟨tg, iter, ifs, 0⟩ :: rest) scope pos) (eOnly f) := by
  obtain ⟨t, pe, sn⟩ := h.ex
  refine ⟨fun σ H _ => t σ H fun _ _ => False, ⟨fun pins s σ H Q I h => ?_⟩, snd_only sn⟩
  have captured : ∀ y ∈ scope.names, y.2 = .free → ∃ k, X.env.cells.lookup y.1 = some k := fun y hy q =>
    (ok.free y hy q).elim (fun z => I.ok.has _ (.inl z)) fun z => I.ok.has _ (.inr z)
  rw [eval_ListComp]
  have c := cmpL elt (⟨tg, iter, ifs, 0⟩ :: rest) scope pos (fun c hc => by
    rcases List.mem_cons.mp hc with rfl | hc
    · rfl
    · exact ha c hc)
  refine wpAny_comprehension_free c.cl hs (closure_ok captured) ok.kind (fun y hy q => by rw [ok.uniq y hy, q]) (thn (pe.run pins s σ H _ I h) fun _ s1 ⟨v, H1, I1, r1, z⟩ => z.elim)
theorem vro_eq {b : Expr} {fb : Fe} (h : VEX X Wx e f) (hb : VE X.nox b fb) : VEX X Wx (.Compare e [.Eq] [b] pos) (eOnly f) := by
  obtain ⟨t, pe, sn⟩ := h.ex
  obtain ⟨u, pb, _⟩ := hb.ex
  refine ⟨_, pe_cmp (pc_eqI pe pb.nox), fun G W σ H s r s' R hf Q hq => ?_⟩
  unfold eOnly at hf
  split at hf
  · rename_i c x s1 e1
    cases hf
    exact sn G W σ H s _ _ R e1 _ hq
  · cases hf
end
section
variable {P : Program} {w : World} {K : PySem.W.Frag} {mg : Str → Option Value} {base : Heap} {x qual : Str} {st : Stmt} {f : Addr} {fd : FuncData} {N ps : List Str} {k : Nat} {Fb : FsX} {dvs : List V} {kws : List (Str × V)}
theorem fn_XD (F : FunD K x qual (defArgs st) (defBody st) (defScope st) dvs kws f fd) (S : FnScope N ps (defScope st)) (hb : BodyX P w K mg base N qual st f k Fb) : FnOk P w K mg base (L2.CX P w) (k + 1) f fd ps (spX ⟨P, w, K⟩ mg ps.length (fnX N.length Fb)) := by
  refine F.ok (CX := L2.CX P w) S (fun vs H Q E h => spX_len vs H Q E h) fun cdv A outer s H vs Q E hr h => ?_
  obtain ⟨O, ds, d, hl, rs, fr, hg, hq⟩ := h
  obtain ⟨t, p, sn⟩ := (hb cdv A outer s H E hr (takes_of rfl rfl rfl rfl) (passes_of rfl)).ex
  exact ⟨t, p, sn ⟨H, O⟩ W0 _ H _ _ (rel0 rs fr (by rw [hl]; exact ps_le S)) (post0X hg hq)⟩
end
end Fx
-- Fy9
namespace Fx
open PySem PySem.Spec L2
/-! ### isinstance(x, (S, T)), x a dict too -/
def rIsiTD (K : PySem.W.Frag) : List V → Hp → VK → Prop := fun xs H Q => ∃ (a tp : Addr) (o : Obj) (kvs : List (List Key × V)) (cs : List V) (us : List Value) (b : Bool), xs = [.ref a, .ref tp] ∧ H tp = some (.tup cs) ∧ Paired ClsV cs us ∧ H a = some (.frz o (.dT kvs)) ∧ PySem.W.kitAny K (.type "dict") us = some b ∧ Q (.bl b) H
theorem call_isiTD {X : Cx} : CallR X (.builtin "isinstance") (rIsiTD X.K) := by
  intro pins s σ H xs us Q I r h
  obtain ⟨a, tp, od, kvs, cs, ws, b, rfl, hT, k, hD, e, q⟩ := h
  obtain ⟨u1, u2, rfl, r1, r2⟩ := vals2 r
  cases (show u2 = Value.ref tp from r2)
  cases (show u1 = Value.ref a from r1)
  have p : PySem.W.KitAt a "dict" s.heap := by
    obtain ⟨_, _, _, _, _, o, _, _, ho, hx, _⟩ := I.hok a _ hD
    exact ⟨o, ho, hx.1⟩
  obtain ⟨_, its, rv, o, h1, h2, n, h3⟩ := (show ObjOk X.prog X.w H s.heap tp (.tup cs) from I.hok tp _ hT)
  have e3 := ClsV.all k rv
  subst e3
  obtain ⟨oc, od, dt, sl⟩ := o
  simp only at h2 h3
  subst h2 h3
  exact PySem.W.kia_tup PySem.W.kitx_dict I.kIn p h1 e (fun z => nomatch z) fun tk => ⟨.bl b, H, I.tok tk, rfl, q⟩
/-- as isi2D; a dict is neither -/
def isi2E (S T : Ty) : D → Option D
  | .dict [] => some (.bool false)
  | d => isi2D S T d
theorem kitB_dict (T : Ty) : kitB "dict" T.name = some false := by cases T <;> decide +kernel
section
variable {X : Cx} {p p2 p3 p4 pos tpos : Pos} {e : Expr} {f : Fe} {k : Nat}
theorem ve_isi2E (S T : Ty) (hg : Gl X "isinstance") (hm : X.mg "isinstance" = none) (hgS : Gl X (nameT S)) (hmS : X.mg (nameT S) = none) (hgT : Gl X (nameT T)) (hmT : X.mg (nameT T) = none) (h : VE X e f) {x y : Str} (hx : x = nameT S := by rfl) (hy : y = nameT T := by rfl)
    (hv : bootBuiltins "isinstance" = some (.builtin "isinstance") := by decide +kernel) (hvS : bootBuiltins (nameT S) = some (.type S.name) := by decide +kernel) (hvT : bootBuiltins (nameT T) = some (.type T.name) := by decide +kernel)
    (hnS : nameT S ≠ "__name__" := by decide +kernel) (hdS : (nameT S == ("__debug__" : Str)) = false := by decide +kernel) (hn : nameT T ≠ "__name__" := by decide +kernel) (hd : (nameT T == ("__debug__" : Str)) = false := by decide +kernel)
    (ns : NS X e [.Tuple [.Name x p2, .Name y p3] k tpos] pos := by exact ⟨rfl, rfl⟩) (hs : starEach [.Tuple [.Name x p2, .Name y p3] k tpos] X.env = (false, eval (.Tuple [.Name x p2, .Name y p3] k tpos) X.env) :: starEach [] X.env := by rfl)
    (h1 : starEach [.Name x p2, .Name y p3] X.env = (false, eval (.Name x p2) X.env) :: starEach [.Name y p3] X.env := by rfl) (h2 : starEach [.Name y p3] X.env = (false, eval (.Name y p3) X.env) :: starEach [] X.env := by rfl) :
    VE X (.Call (.Name "isinstance" p) [e, .Tuple [.Name x p2, .Name y p3] k tpos] [] pos) (eUn (isi2E S T) f) := by
  subst hx hy
  obtain ⟨t, pe, sn⟩ := h.ex
  have cr : CallR X (.builtin "isinstance") (fun xs H Q => rIsiT X.K xs H Q ∨ rIsiTD X.K xs H Q) := fun pins s σ H xs us Q I r h => h.elim (call_isiT pins s σ H xs us Q I r) (call_isiTD pins s σ H xs us Q I r)
  refine ⟨_, pe_callB cr hg hm hv (pa_cons pe (pa_cons (pe_tup (pa_cons (pe_bltn (v := .ty S.name) hgS hmS hvS rfl hnS hdS) (pa_cons (pe_bltn (v := .ty T.name) hgT hmT hvT rfl hn hd) pa_nil h2) h1)) pa_nil hs) ns.he) (by decide) (by decide) ns.he ns.hpl, ?_⟩
  intro G W σ H s d s' R hf Q hq
  obtain ⟨x, h1, h2⟩ := eUn_some hf
  refine sn G W σ H s x s' R h1 _ fun v H1 R1 z1 p1 => ?_
  refine ⟨by show 2 ≤ sizeLine; rw [sizeLine_eq]; omega, fun q hn => ?_⟩
  have sm : Same H1 (upd H1 q (.tup [.ty S.name, .ty T.name])) := fun b o e => by rw [upd_ne (ne_of_none e hn)]; exact e
  have p2 := p1.fz (Fz.of_same sm)
  unfold isi2E at h2
  split at h2
  · cases h2
    cases p2 with
    | dt n hd en => exact .inr ⟨_, q, _, _, [.ty S.name, .ty T.name], [.type S.name, .type T.name], false, rfl, upd_same, .cons (.ty _) (.cons (.ty _) .nil), hd, kitAny_cons (kit_ty (kitB_dict S)) (fun _ => kitAny_cons (kit_ty (kitB_dict T)) (fun _ => kitAny_nil) fun z => z) (fun z => nomatch z), hq _ _ (R1.same sm) (z1.trans (Fz.of_same sm)) (.bl false)⟩
    | dk n hd en ne => cases en; exact absurd rfl ne
  · unfold isi2D at h2
    simp only [Option.bind_eq_some_iff] at h2
    obtain ⟨b, h3, h4⟩ := h2
    obtain ⟨n, e1, ty⟩ := p1.ty h3
    have k1 := kit_is S x e1 h3
    obtain ⟨n', e1', ty'⟩ := p2.ty h3
    rw [e1] at e1'; cases e1'
    cases b with
    | true =>
      cases h4
      exact .inl ⟨v, q, [.ty S.name, .ty T.name], .type n, [.type S.name, .type T.name], true, rfl, upd_same, .cons (.ty _) (.cons (.ty _) .nil), ty', kitAny_cons (kit_ty k1) (fun z => nomatch z) fun _ => rfl, hq _ _ (R1.same sm) (z1.trans (Fz.of_same sm)) (.bl true)⟩
    | false =>
      unfold isiD at h4
      simp only [Bool.false_eq_true, if_false, Option.map_eq_some_iff] at h4
      obtain ⟨b, h5, rfl⟩ := h4
      have k2 := kit_is T x e1 h5
      exact .inl ⟨v, q, [.ty S.name, .ty T.name], .type n, [.type S.name, .type T.name], b, rfl, upd_same, .cons (.ty _) (.cons (.ty _) .nil), ty', kitAny_cons (kit_ty k1) (fun _ => kitAny_cons (kit_ty k2) (fun z => by rw [z]; exact kitAny_nil) fun z => z) (fun z => nomatch z), hq _ _ (R1.same sm) (z1.trans (Fz.of_same sm)) (.bl b)⟩
end
end Fx
-- Fy10
namespace Fx
open PySem PySem.Spec L2
/-! ### keywords and defaults where what is raised is wished for at the caller's slots -/
def tCallNS (n m : Nat) (sp : Sp) (gV : List V → List V → List V) (E : L2.St → XK) (t tk : TA) : TE := fun σ H Q => t σ H fun vs H1 => tk σ H1 fun zs H2 => vs.length = n ∧ zs.length = m ∧ sp (gV vs zs) H2 Q (E σ)
section
variable {X : Cx} {CX : CXT} {k n : Nat} {f : Addr} {fd : FuncData} {ps ks : List Str} {sp : Sp} {E : L2.St → XK} {x : Str} {p pos : Pos} {e : Expr} {es : List Expr} {kws : List Keyword} {t tk : TA} {g : List Value → List Value → List Value} {gV : List V → List V → List V}
theorem run_fnNS {pins : List (Addr × Obj)} {σ : L2.St} {H : Hp} {s : Shared} {Q : VK} {us ws : List Value} {vs zs : List V} (F : FnOk X.prog X.w X.K X.mg X.base CX k f fd ps sp) (hr : Room k X.A) (hb : KBn X.K fd ps n ks g gV) (hx : PassesAt CX X σ (E σ))
    (I : Inv X pins σ H s) (r : Vals vs us) (rz : Vals zs ws) (l1 : vs.length = n) (l2 : zs.length = ks.length) (h : sp (gV vs zs) H Q (E σ)) : wpAny (model X.prog X.w) X.A (call (.ref f) us (ks.zip ws)) (EP X pins σ Q) X.xe s := by
  have r2 := hb.rel r rz
  refine wpAny_call (codeAny_mono (F.run X.A X.stack s H ⟨us, ks.zip ws⟩ (g us ws) (gV vs zs) Q (E σ) hr I.env0 (hb.to s us ws I.kIn (r.length.symm.trans l1) (rz.length.symm.trans l2)) r2 h) fun r s' hq => ?_)
  cases r with
  | error e => exact hx pins H s e s' I hq
  | ok fl =>
    cases fl with
    | ret u => exact I.after hq
    | next => exact False.elim hq
    | brk => exact False.elim hq
    | cont => exact False.elim hq
theorem pe_callNS (F : FnOk X.prog X.w X.K X.mg X.base CX k f fd ps sp) (hr : Room k X.A) (hg : Gl X x) (hm : X.mg x = some (.ref f)) (hk : PySem.W.keepIn X.K (.ref f) = true) (hb : KBn X.K fd ps n ks g gV) (hx : ∀ σ, PassesAt CX X σ (E σ))
    (ha : PA X (e :: es) t) (hkw : PK X kws tk) (hall : (backToKw pos (keywordEach kws X.env)).all (·.1.isSome) = true := by rfl) (hks : (backToKw pos (keywordEach kws X.env)).filterMap (·.1) = ks := by rfl)
    (hdb : (x == ("__debug__" : Str)) = false := by decide) (he : starEach (e :: es) X.env = (false, eval e X.env) :: starEach es X.env := by rfl)
    (hpl : ((backTo pos (starEach (e :: es) X.env)).any (·.1) || (backToKw pos (keywordEach kws X.env)).any (·.1.isNone)) = false := by rfl) :
    PE X (.Call (.Name x p) (e :: es) kws pos) (tCallNS n ks.length sp gV E t tk) := by
  refine ⟨fun pins s σ H Q I h => ?_⟩
  refine wpAny_Call_Name_kw (ld_glob I hg hm ?_ hdb)
  refine PySem.W.callWith_KW (h₀ := X.base) I.ok.mod.kin hk hall (thn (ha.run pos pins s σ H _ I h) fun us s1 ⟨vs, H1, I1, r, q⟩ => ?_) hpl he
  refine thn (hkw.run pos pins s1 σ H1 _ I1 q) fun ws s2 ⟨zs, H2, I2, rz, l1, l2, q2⟩ => ⟨I2.kIn, ?_⟩
  rw [hks]
  exact run_fnNS F hr hb (hx σ) I2 r rz l1 l2 q2
end
def eFnNX (n m : Nat) (o : Ord3) (ms : List Int) (g : List D → Option Rx) (fa fk : Fa) : FeX := fun s => (fa s).bind fun (xs, s1) => (fk s1).bind fun (ys, s2) => if xs.length = n ∧ ys.length = m then (g (o.put xs (ms.map .int) ys)).map fun z => (z, s2) else none
def eFnDX (n : Nat) (ms : List Int) (g : List D → Option Rx) (fa : Fa) : FeX := fun s => (fa s).bind fun (xs, s1) => if xs.length = n then (g (xs ++ ms.map .int)).map fun z => (z, s1) else none
section
variable {X : Cx} {Wx : WX} {k n nn : Nat} {f : Addr} {fd : FuncData} {ps ks : List Str} {g : List D → Option Rx} {x : Str} {p pos kpos : Pos} {e : Expr} {es : List Expr} {kws : List Keyword} {fa fk : Fa} {o : Ord3} {ms : List Int}
theorem vex_fnKS (F : FnOk X.prog X.w X.K X.mg X.base (L2.CX X.prog X.w) k f fd ps (spX (evX X) X.mg nn g)) (hr : Room k X.A) (hg : Gl X x) (hm : X.mg x = some (.ref f)) (hk : PySem.W.keepIn X.K (.ref f) = true) (hb : KBn X.K fd ps n ks (· ++ ·) (· ++ ·)) (tk : Takes X Wx) (ha : VA X.nox (e :: es) fa) (hw : VKw X.nox kws fk) (hn : n + ks.length = nn)
    (hall : (backToKw pos (keywordEach kws X.env)).all (·.1.isSome) = true := by rfl) (hks : (backToKw pos (keywordEach kws X.env)).filterMap (·.1) = ks := by rfl)
    (hdb : (x == ("__debug__" : Str)) = false := by decide +kernel) (he : starEach (e :: es) X.env = (false, eval e X.env) :: starEach es X.env := by rfl)
    (hpl : ((backTo pos (starEach (e :: es) X.env)).any (·.1) || (backToKw pos (keywordEach kws X.env)).any (·.1.isNone)) = false := by rfl) :
    VEX X Wx (.Call (.Name x p) (e :: es) kws pos) (eFnKX n ks.length g fa fk) := by
  obtain ⟨t, pa, sa⟩ := ha.ex
  obtain ⟨u, pk, sk⟩ := hw.ex
  refine ⟨_, pe_callNS F hr hg hm hk hb (fun σ => passAt tk σ) (pa_nox pa) (pk_nox pk) hall hks hdb he hpl, ?_⟩
  intro G W σ H s r s' R hf Q hq
  unfold eFnKX at hf
  simp only [Option.bind_eq_some_iff] at hf
  obtain ⟨⟨xs, s1⟩, h1, ⟨ys, s2⟩, h2, h3⟩ := hf
  dsimp only at h3
  split at h3
  · rename_i hl
    simp only [Option.map_eq_some_iff] at h3
    obtain ⟨zz, h4, h5⟩ := h3
    obtain ⟨rfl, rfl⟩ := Prod.mk.inj h5
    refine sa G W σ H s xs s1 R h1 _ fun vs H1 R1 z1 p1 => ?_
    refine sk G W σ H1 s1 ys _ R1 h2 _ fun zs H2 R2 z2 p2 => ⟨by rw [p1.length]; exact hl.1, by rw [p2.length]; exact hl.2, ?_⟩
    refine ⟨Av G W, xs ++ ys, zz, by rw [List.length_append, hl.1, hl.2]; exact hn, (p1.fz z2).append p2, R2.fre, h4, ?_⟩
    cases zz with
    | ok d => exact fun v H3 sm p3 => hq v H3 (R2.same sm) ((z1.trans z2).trans (Fz.of_same sm)) p3
    | exc c y => exact fun H3 sm => hq H3 (R2.same sm) ((z1.trans z2).trans (Fz.of_same sm))
  · cases h3
theorem vex_fnN (F : FnOk X.prog X.w X.K X.mg X.base (L2.CX X.prog X.w) k f fd ps (spX (evX X) X.mg nn g)) (hr : Room k X.A) (hg : Gl X x) (hm : X.mg x = some (.ref f)) (hk : PySem.W.keepIn X.K (.ref f) = true) (hb : KBo X.K fd ps n ks o ms) (tk : Takes X Wx) (ha : VA X.nox (e :: es) fa) (hw : VKw X.nox kws fk) (hn : n + ms.length + ks.length = nn)
    (hall : (backToKw pos (keywordEach kws X.env)).all (·.1.isSome) = true := by rfl) (hks : (backToKw pos (keywordEach kws X.env)).filterMap (·.1) = ks := by rfl)
    (hdb : (x == ("__debug__" : Str)) = false := by decide +kernel) (he : starEach (e :: es) X.env = (false, eval e X.env) :: starEach es X.env := by rfl)
    (hpl : ((backTo pos (starEach (e :: es) X.env)).any (·.1) || (backToKw pos (keywordEach kws X.env)).any (·.1.isNone)) = false := by rfl) :
    VEX X Wx (.Call (.Name x p) (e :: es) kws pos) (eFnNX n ks.length o ms g fa fk) := by
  obtain ⟨t, pa, sa⟩ := ha.ex
  obtain ⟨u, pk, sk⟩ := hw.ex
  obtain ⟨gv, hb⟩ := hb
  refine ⟨_, pe_callNS F hr hg hm hk hb (fun σ => passAt tk σ) (pa_nox pa) (pk_nox pk) hall hks hdb he hpl, ?_⟩
  intro G W σ H s r s' R hf Q hq
  unfold eFnNX at hf
  simp only [Option.bind_eq_some_iff] at hf
  obtain ⟨⟨xs, s1⟩, h1, ⟨ys, s2⟩, h2, h3⟩ := hf
  dsimp only at h3
  split at h3
  · rename_i hl
    simp only [Option.map_eq_some_iff] at h3
    obtain ⟨zz, h4, h5⟩ := h3
    obtain ⟨rfl, rfl⟩ := Prod.mk.inj h5
    refine sa G W σ H s xs s1 R h1 _ fun vs H1 R1 z1 p1 => ?_
    refine sk G W σ H1 s1 ys _ R1 h2 _ fun zs H2 R2 z2 p2 => ⟨by rw [p1.length]; exact hl.1, by rw [p2.length]; exact hl.2, ?_⟩
    refine ⟨Av G W, o.put xs (ms.map .int) ys, zz, by rw [Ord3.len, hl.1, hl.2, List.length_map]; exact hn, o.reps (p1.fz z2) (reps_ints ms) p2, R2.fre, h4, ?_⟩
    cases zz with
    | ok d => exact fun v H3 sm p3 => hq v H3 (R2.same sm) ((z1.trans z2).trans (Fz.of_same sm)) p3
    | exc c y => exact fun H3 sm => hq H3 (R2.same sm) ((z1.trans z2).trans (Fz.of_same sm))
  · cases h3
theorem vex_fnD (F : FnOk X.prog X.w X.K X.mg X.base (L2.CX X.prog X.w) k f fd ps (spX (evX X) X.mg nn g)) (hr : Room k X.A) (hg : Gl X x) (hm : X.mg x = some (.ref f)) (hk : PySem.W.keepIn X.K (.ref f) = true) (hb : ∃ ds, Vals (ms.map V.int) ds ∧ Binds X.K fd ps ds) (tk : Takes X Wx) (ha : VA X.nox (e :: es) fa) (hn : n + ms.length = nn) (hdb : (x == ("__debug__" : Str)) = false := by decide +kernel) (ns : NS X e es pos := by exact ⟨rfl, rfl⟩) :
    VEX X Wx (.Call (.Name x p) (e :: es) [] pos) (eFnDX n ms g fa) := by
  obtain ⟨t, pa, sa⟩ := ha.ex
  obtain ⟨ds, hd, hb⟩ := hb
  refine ⟨_, pe_callSD F hr hg hm hk hb hd (fun σ => passAt tk σ) (pa_nox pa) hdb ns.he ns.hpl, ?_⟩
  intro G W σ H s r s' R hf Q hq
  unfold eFnDX at hf
  simp only [Option.bind_eq_some_iff] at hf
  obtain ⟨⟨xs, s1⟩, h1, h3⟩ := hf
  dsimp only at h3
  split at h3
  · rename_i hl
    simp only [Option.map_eq_some_iff] at h3
    obtain ⟨z, h4, h5⟩ := h3
    cases h5
    refine sa G W σ H s xs _ R h1 _ fun vs H1 R1 z1 p1 => ?_
    refine ⟨Av G W, xs ++ ms.map .int, r, by rw [List.length_append, hl, List.length_map]; exact hn, p1.append (reps_ints ms), R1.fre, h4, ?_⟩
    cases r with
    | ok d => exact fun v H2 sm p2 => hq v H2 (R1.same sm) (z1.trans (Fz.of_same sm)) p2
    | exc c y => exact fun H2 sm => hq H2 (R1.same sm) (z1.trans (Fz.of_same sm))
  · cases h3
/-- e is not None, as a value -/
theorem vex_isnt {a b : Expr} {f1 : FeX} {f2 : Fe} (ha : VEX X Wx a f1) (hb : VE X.nox b f2) : VEX X Wx (.Compare a [.IsNot] [b] pos) (eBinX isntD f1 f2) := by
  obtain ⟨ta, pa, sa⟩ := ha.ex
  obtain ⟨tb, pb, sb⟩ := hb.ex
  exact ⟨_, pe_cmpR (op_notN.or op_notBl) pa pb.nox (nomark _), snd_opX sa sb sr_isnt.r⟩
end
/-! ### several handlers, the exception kept -/
abbrev Hd := Value × (Addr → Value → Option Addr → TS)
inductive HdsK (X : Cx) (n : Str) : List ExceptHandler → List Hd → Prop
  | nil : HdsK X n [] []
  | cons {x : Str} {c : Value} {ts : Addr → Value → Option Addr → TS} {b₀ : Stmt} {suite : List Stmt} {np pos' : Pos} {hds : List ExceptHandler} {l : List Hd} (hc : Names X x c)
      (hsu : ∀ (a : Addr) (oe : Obj) (cls : Value) (d : Option Addr) (pn : List (Addr × Obj)), Zc cls d oe → (∃ vs, oe.data = .fields vs) → PSs (X.suite a ((a, oe) :: pn)) (b₀ :: suite) (ts a cls d)) (r : HdsK X n hds l) :
      HdsK X n (.ExceptHandler (some (.Name x np)) (some n) (b₀ :: suite) pos' :: hds) ((c, ts) :: l)
def wKeepN (K : PySem.W.Frag) (i : Nat) (Wout : WX) (Dn : Ends) : List Hd → WX
  | [] => Wout
  | (c, ts) :: r => fun cls d σ H =>
    ∃ b, PySem.W.exmOne K cls c = some b ∧ (b = true → ∀ a, H a = none → ts a cls d { nx := fun σ' H' => H' a = none → Dn.nx (σ'.set i none) (upd H' a (ExT cls d a)), rt := Dn.rt, bk := fun σ' H' => Dn.bk (σ'.set i none) H', ct := fun σ' H' => Dn.ct (σ'.set i none) H' } (σ.set i (some (.ref a))) H) ∧
      (b = false → wKeepN K i Wout Dn r cls d σ H)
section
variable {X : Cx} {n : Str} {i : Nat} {body : List Stmt} {h₀ : ExceptHandler} {hds : List ExceptHandler} {l : List Hd} {pos : Pos} {tb : WX → TS} {Wout : WX}
theorem ps_try_keepN (hs : X.stack = X.env :: X.outer) (hf : X.env.frame = some X.env.locals) (hex : X.ex = []) (hN : X.N.Nodup) (hi : X.N[i]? = some n) (hln : X.env.kindOf n = some .local) (tk : Takes X Wout)
    (hb : ∀ (W : WX) (pn : List (Addr × Obj)) (xe : Value → Shared → Prop), Takes (X.tr pn xe) W → PassesOwn (model X.prog X.w) X.A X.env xe → PSs (X.tr pn xe) body (tb W))
    (hh : HdsK X n (h₀ :: hds) l) :
    PS X (.Try body (h₀ :: hds) [] [] pos) (fun D σ H => tb (wKeepN X.K i Wout D l) D σ H) := by
  refine ⟨fun pins s σ H D I h => ?_⟩
  have ok := I.ok
  have hfr : X.A.frames = some (X.env :: X.outer) := by rw [ok.frames, hs]
  have hloc : Loc X.env.scope n := .inl hln
  refine wpAny_Try_except ?_
  refine wpAny_mono ((hb (wKeepN X.K i Wout D l) (X.pn ++ pins) (fun e s₁ => wpAny (model X.prog X.w) X.A (noteFrame e X.env) (fun _ s₂ => wpAny (model X.prog X.w) X.A (setFlight e none) (fun _ s₃ =>
    wpAny (model X.prog X.w) X.A (handleBy e X.env (h₀ :: hds)) (SP X pins D) X.xe s₃) X.xe s₂) X.xe s₁) (fun u s' xx => ?_) PassesOwn.looking).run [] s σ H D (I.toTry _) h) (fun f s1 hsp => ?_) (fun e s1 he => he)
  · obtain ⟨a, B, sI, pins', σ', H', cls, d, rfl, J', nb, up, sky, na, os, ag, w⟩ := xx
    have J : Inv X pins σ' H' sI := J'.ofTry ok
    have sky' : Sky B (X.env :: X.outer) a (Zc cls d) X.env.locals s'.heap := by rw [← hs]; exact sky
    show wpAny (model X.prog X.w) X.A (noteFrame (.ref a) X.env) _ _ _
    refine Sky.land Zc.steady hfr hf sky' fun h3 fl3 up3 => ?_
    have J3 : Inv X pins σ' H' { s' with heap := h3 } := J.landed nb fl3.1 (up.trans up3) os ag
    obtain ⟨oe3, vs3, he3, hz3, hd3⟩ := fl3.there
    have notFr : ∀ {h : Heap} {o : Obj} {vs : Array Value}, h.FunFrames B (X.env :: X.outer) → h.get? a = some o → o.data = .fields vs → a ∉ frs (X.env :: X.outer) := fun {h o vs} ff e dd hm => by
      obtain ⟨_, o', e', hnf⟩ := ff.mem hm
      rw [e] at e'; cases e'
      exact hnf _ dd
    have nfr := notFr fl3.2.2.1 he3 hd3
    have nL : a ≠ X.env.locals := fun z => nfr (List.mem_filterMap.mpr ⟨X.env, List.mem_cons_self, by rw [hf, z]⟩)
    have nF : a ∉ X.fs := fun hm => by
      obtain ⟨e, he, q⟩ := List.mem_filterMap.mp hm
      exact nfr (List.mem_filterMap.mpr ⟨e, List.mem_cons_of_mem _ he, q⟩)
    have Bn : B.get? a = none := fl3.2.1
    have inB : ∀ b o, sI.heap.get? b = some o → b ∉ frs X.stack → b ≠ a := fun b o e hb z => by
      have := nb b o e hb
      rw [z, Bn] at this
      cases this
    have nP : ∀ p ∈ X.pn ++ pins, p.1 ≠ a := fun p hp => by
      obtain ⟨e, _, ne, nf, _⟩ := J.pin p hp
      refine inB _ _ e fun hm => ?_
      rcases List.mem_cons.mp (J.stkSub _ hm) with z | z
      · exact ne z
      · exact nf z
    have n0 : X.s_0.heap.get? a = none := by
      cases e : X.s_0.heap.get? a with
      | none => rfl
      | some o =>
        obtain ⟨o', e1⟩ := J.base.there a o e (by rw [hex]; exact fun z => nomatch z)
        exact absurd rfl (inB a o' e1 (by rw [hs]; exact nfr))
    have S3 := J3.suite he3 hd3 na nL nF
    have go : ∀ {hds' : List ExceptHandler} {l' : List Hd}, HdsK X n hds' l' → wKeepN X.K i Wout D l' cls d σ' H' →
        wpAny (model X.prog X.w) X.A (handleBy (.ref a) X.env hds') (SP X pins D) X.xe { s' with heap := h3 } := by
      intro hds' l' hk
      induction hk with
      | nil =>
        intro w
        refine wpAny_handleBy_nil ?_
        obtain ⟨k1, k2, k3, oe, vs, T, oT, ts', he, hz, hd, h1, hr⟩ := id fl3
        unfold PySem.passOn
        refine wpAny_bind (wpAny_field he hd h1 ?_)
        rw [if_neg (show ¬ ((Value.ref T == Value.none) = true) from by simp)]
        have fin : wpAny (model X.prog X.w) X.A (setFlight (.ref a) X.env.frame) (fun _ s4 => wpAny (model X.prog X.w) X.A (throw (.ref a) : Sem Flow) (SP X pins D) X.xe s4) X.xe { s' with heap := h3 } := by
          rw [hf]
          refine HandSPX.setFlight_upZ fl3 fun h4 hh4 up4 => wpAny_throw (tk _ _ ?_)
          exact ⟨a, B, sI, pins, σ', H', cls, d, rfl, J, nb, (up.trans up3).trans up4, .inr (.inr (by rw [hs]; exact hh4)), na, os, ag, w⟩
        first
          | exact wpAny_bind (wpAny_pure (wpAny_bind fin))
          | exact wpAny_bind fin
      | @cons x c ts b₀ suite np pos' hds2 l2 hc hsu r ih =>
        intro w
        obtain ⟨b, hb1, hyes, hno⟩ := w
        refine wpAny_handleBy_cons (codeAny_handlers_test ?_) (by intro q; cases q)
        have LT : PySem.W.Looks (model X.prog X.w) h3 (typeOf (.ref a)) cls := fun A Q E s k q => wpAny_typeOf_ref (k _ _ he3) (by rw [hz3.1]; exact q)
        have LM := PySem.W.exm_one (M := model X.prog X.w) (J3.kIn) LT hb1
        have test : ∀ {Q : Value → Shared → Prop} {E : Value → Shared → Prop}, Q c { s' with heap := h3 } → wpAny (model X.prog X.w) (X.A.mark (some (.ref a))) (eval (.Name x np) X.env) Q E { s' with heap := h3 } := fun {Q E} q => by
          obtain ⟨hg, hdbg, hm | ⟨hm, hv, hnn⟩⟩ := hc
          · exact ld_glob (X := X.suite a ((a, oe3) :: (X.pn ++ pins))) S3 hg hm q hdbg
          · exact ld_blt (X := X.suite a ((a, oe3) :: (X.pn ++ pins))) S3 hg hm hv q hnn hdbg
        refine test (LM.here ?_)
        cases b with
        | true =>
          refine codeAny_handlers_suite_as ?_
          refine HandSPX.lands_againZ fl3 fun h4 fl4 up4 => ?_
          have J4 : Inv X pins σ' H' { s' with heap := h4 } := J.landed nb fl4.1 ((up.trans up3).trans up4) os ag
          obtain ⟨oe4, vs4, he4, hz4, hd4⟩ := fl4.there
          have S4 := J4.suite he4 hd4 na nL nF
          refine store_ok (X := X.suite a ((a, oe4) :: (X.pn ++ pins))) (v := .ref a) S4 hN hi hloc rfl (fun s5 S5 => ?_) (.inr hln)
          refine wpAny_mono ((hsu a oe4 cls d (X.pn ++ pins) hz4 ⟨_, hd4⟩).run [] s5 _ H' _ S5 (hyes rfl a na)) (fun f s6 hsp => ?_) (fun _ _ z => False.elim z)
          cases f with
          | next =>
            obtain ⟨σ6, H6, S6, q6⟩ := hsp
            obtain ⟨g6, n6, _⟩ := S6.pin (a, oe4) (List.mem_append.mpr (.inl List.mem_cons_self))
            exact gone_ok (inv_track (S6.unsuite ok) g6 hz4 hd4 n6 nL nP n0) hN hi hln fun s7 J7 => ⟨_, _, J7, q6 n6⟩
          | brk =>
            obtain ⟨σ6, H6, S6, q6⟩ := hsp
            exact gone_ok (S6.unsuite ok) hN hi hln fun s7 J7 => ⟨_, _, J7, q6⟩
          | cont =>
            obtain ⟨σ6, H6, S6, q6⟩ := hsp
            exact gone_ok (S6.unsuite ok) hN hi hln fun s7 J7 => ⟨_, _, J7, q6⟩
          | ret u =>
            obtain ⟨v6, σ6, H6, S6, r6, q6⟩ := hsp
            exact gone_ok (S6.unsuite ok) hN hi hln fun s7 J7 => ⟨_, _, _, J7, r6, q6⟩
        | false =>
          show wpAny _ X.A (handleBy (.ref a) X.env hds2) _ _ _
          exact ih (hno rfl)
    exact go hh w
  · cases f with
    | next =>
      obtain ⟨σ', H', J', q⟩ := hsp
      exact wpAny_execs_nil ⟨σ', H', J'.ofTry ok, q⟩
    | brk =>
      obtain ⟨σ', H', J', q⟩ := hsp
      exact ⟨σ', H', J'.ofTry ok, q⟩
    | cont =>
      obtain ⟨σ', H', J', q⟩ := hsp
      exact ⟨σ', H', J'.ofTry ok, q⟩
    | ret u =>
      obtain ⟨v, σ', H', J', r, q⟩ := hsp
      exact ⟨v, σ', H', J'.ofTry ok, r, q⟩
end
end Fx
-- Fy11
namespace Fx
open PySem PySem.Spec L2
/-! ### try with two handlers, the first reads a field -/
def sTry2 (i j b : Nat) (told key c1 : Str) (F : FsX) (g : Str → Option Str) : Fs := fun s => match F s with
  | some (.fl .next, s1) => match s1.rho[j]? with
    | some (.val .none) => some (.ret (.str told), s1)
    | _ => none
  | some (.exc c x, s1) => if i < s1.rho.length ∧ j < s1.rho.length ∧ b < s1.rho.length then
      if c = c1 then (match x with
        | some d => some (.ret (.tuple [.str key, d]), s1)
        | none => none)
      else (g c).map fun z => (.ret (.str z), s1)
    else none
  | _ => none
section
variable {X : Cx} {x1 x2 n m bn rf told key c1 : Str} {C1 CW : Addr} {i j b k : Nat} {body : List Stmt} {pos p1 p2 p3 p4 p5 p6 p7 p8 p9 p10 p11 p12 p13 p14 p15 p16 p17 p18 p19 p20 p21 p22 p23 p24 p25 p26 p27 p28 p29 p30 p31 p32 p33 : Pos} {j1 j2 j3 j4 j5 j6 : Nat} {Fb : FsX} {g : Str → Option Str} {f : Addr} {fd : FuncData}
theorem vb_try2 (hs : X.stack = X.env :: X.outer) (hfr : X.env.frame = some X.env.locals) (hex : X.ex = []) (hN : X.N.Nodup) (hi : X.N[i]? = some n) (hj : X.N[j]? = some m) (hbb : X.N[b]? = some bn) (hij : i ≠ j) (hib : i ≠ b) (hjb : j ≠ b) (hln : X.env.kindOf n = some .local) (hlm : Loc X.env.scope m) (hlb : Loc X.env.scope bn) (hvn : Vis X.env.scope n) (hvm : Vis X.env.scope m) (hvb : Vis X.env.scope bn)
    (dn : (n == ("__debug__" : Str)) = false) (cn : (n == ("__classdict__" : Str)) = false) (dm : (m == ("__debug__" : Str)) = false) (cm : (m == ("__classdict__" : Str)) = false) (db : (bn == ("__debug__" : Str)) = false) (cb : (bn == ("__classdict__" : Str)) = false) (hfm : X.fn m = true ∨ X.env.scope.names.lookup m = some .local) (hfb : X.fn bn = true ∨ X.env.scope.names.lookup bn = some .local)
    (hx1 : Names X x1 (.ref C1)) (hx : Names X x2 (.ref CW)) (hm1 : X.mg c1 = some (.ref C1)) (XF : XfC X.K C1) (hno : PySem.W.findIn X.K (.ref C1) "standing" = some none) (hcs : PySem.W.exmOne X.K (.ref C1) (.ref C1) = some true)
    (hc0 : ∀ c C z, c ≠ c1 → X.mg c = some (.ref C) → g c = some z → PySem.W.exmOne X.K (.ref C) (.ref C1) = some false)
    (hcl : ∀ c C z, X.mg c = some (.ref C) → g c = some z → PySem.W.exmOne X.K (.ref C) (.ref CW) = some true)
    (hb : ∀ (W : WX) (pn : List (Addr × Obj)) (xe : Value → Shared → Prop), Takes (X.tr pn xe) W → PassesOwn (model X.prog X.w) X.A X.env xe → VBX (X.tr pn xe) W body Fb)
    (FR : FnOk X.prog X.w X.K X.mg X.base CX0 k f fd [rf] (spR X.mg g)) (hr : Room k X.A) {rn : Str} (hgR : Gl X rn) (hmR : X.mg rn = some (.ref f)) (hkR : PySem.W.keepIn X.K (.ref f) = true) (hbR : Binds X.K fd [rf] []) (hdR : (rn == ("__debug__" : Str)) = false)
    (hsw : ∀ (a : Addr) (oe : Obj) (pn : List (Addr × Obj)), swapsWith (.Name n p2) (some (.Name m p1)) p3.line (X.suite a ((a, oe) :: pn)).env = pure false)
    (hsw2 : ∀ (a : Addr) (oe : Obj) (pn : List (Addr × Obj)), swapsWith (.Name n p21) (some (.Name m p22)) p23.line (X.suite a ((a, oe) :: pn)).env = pure false)
    (hsb : ∀ (a : Addr) (oe : Obj) (pn : List (Addr × Obj)), swapsWith (.Tuple [.Constant (.str key) j3 p13, .Attribute (.Name n p14) "standing" p15] j4 p16) (some (.Name bn p17)) p18.line (X.suite a ((a, oe) :: pn)).env = pure false)
    (hsb2 : ∀ (a : Addr) (oe : Obj) (pn : List (Addr × Obj)), swapsWith (.Constant .none j5 p24) (some (.Name bn p25)) p26.line (X.suite a ((a, oe) :: pn)).env = pure false)
    (hst : ∀ (a : Addr) (oe : Obj) (pn : List (Addr × Obj)), starEach [.Constant (.str key) j3 p13, .Attribute (.Name n p14) "standing" p15] (X.suite a ((a, oe) :: pn)).env = (false, eval (.Constant (.str key) j3 p13) (X.suite a ((a, oe) :: pn)).env) :: starEach [.Attribute (.Name n p14) "standing" p15] (X.suite a ((a, oe) :: pn)).env)
    (hst2 : ∀ (a : Addr) (oe : Obj) (pn : List (Addr × Obj)), starEach [.Attribute (.Name n p14) "standing" p15] (X.suite a ((a, oe) :: pn)).env = (false, eval (.Attribute (.Name n p14) "standing" p15) (X.suite a ((a, oe) :: pn)).env) :: starEach [] (X.suite a ((a, oe) :: pn)).env)
    (hab : attributeBase (.Name n p14) "standing" X.env (eval (.Name n p14) X.env) = eval (.Name n p14) X.env)
    (hse : starEach [.Name m p8] X.env = (false, eval (.Name m p8) X.env) :: starEach [] X.env) (hpl : ((backTo p9 (starEach ([] : List Expr) X.env)).any (·.1)) = false) :
    VB X [.Try body [.ExceptHandler (some (.Name x1 p19)) (some n) [.Assign [.Name bn p17] (.Tuple [.Constant (.str key) j3 p13, .Attribute (.Name n p14) "standing" p15] j4 p16) p18, .Assign [.Name m p1] (.Name n p2) p3] p20,
        .ExceptHandler (some (.Name x2 p27)) (some n) [.Assign [.Name bn p25] (.Constant .none j5 p24) p26, .Assign [.Name m p22] (.Name n p21) p23] p28] [] [] pos,
      .Return (some (.IfExp (.Compare (.Name m p4) [.Is] [.Constant .none j1 p5] p6) (.Constant (.str told) j2 p7) (.IfExp (.Compare (.Name bn p29) [.Is] [.Constant .none j6 p30] p31) (.Call (.Name rn p10) [.Name m p8] [] p9) (.Name bn p32) p11) p12)) p33] (sTry2 i j b told key c1 Fb g) := by
  refine ⟨_, pss_cons (ps_try_keepN (Wout := fun _ _ _ _ => False) (tb := tbX (evX X) X.mg Fb) hs hfr hex hN hi hln takes_none5 (fun W pn xe tk po => vbx_tb (hb W pn xe tk po))
      (.cons hx1 (fun a oe cls d pn hz hf => pss_cons (ps_set (i := b) hN hbb hlb (pe_tup (pa_cons pe_str (pa_cons (pe_xf XF hno hz hf (pe_var hi hvn dn cn) hab) pa_nil (hst2 a oe pn)) (hst a oe pn))) (hsb a oe pn) hfb) (pss_one (ps_set (i := j) hN hj hlm (pe_var hi hvn dn cn) (hsw a oe pn) hfm)))
        (.cons hx (fun a oe cls d pn _ _ => pss_cons (ps_set (i := b) hN hbb hlb pe_non (hsb2 a oe pn) hfb) (pss_one (ps_set (i := j) hN hj hlm (pe_var hi hvn dn cn) (hsw2 a oe pn) hfm))) .nil)))
    (pss_one (ps_ret (pe_ifExp (pt_cmpR (op_isN.or op_isBl) (pe_var hj hvm dm cm) pe_non (nomark _)) pe_str (pe_ifExp (pt_cmpR (op_isN.or op_isBl) (pe_var hbb hvb db cb) pe_non (nomark _)) (pe_call FR hr hgR hmR hkR hbR .nil pass0 (pa_cons (pe_var hj hvm dm cm) pa_nil hse) hdR hse hpl) (pe_var hbb hvb db cb))))), ?_⟩
  intro G W σ H s Dn R po
  refine ⟨G, W, s, R, ?_⟩
  unfold sTry2 at po
  match e : Fb s, po with
  | none, po => exact po.elim
  | some (.fl .brk, s1), po => exact po.elim
  | some (.fl .cont, s1), po => exact po.elim
  | some (.fl (.ret d), s1), po => exact po.elim
  | some (.fl (.retF d), s1), po => exact po.elim
  | some (.fl .next, s1), po =>
    intro W' σ' H' R' z kk
    dsimp only at po
    split at po
    · rename_i ej
      obtain ⟨v, ev, rv⟩ := R'.val j _ ej
      cases rv
      refine ⟨.non, ev, .inl ⟨rfl, true, by simp, ?_⟩⟩
      dsimp only
      rw [if_pos rfl]
      exact po W' _ H' R'.left kk (.str told)
    · exact po.elim
  | some (.exc c x, s1), po =>
    intro W' σ' H' R' z kk C hC
    dsimp only at po
    split at po
    rotate_left
    · exact po.elim
    rename_i hlt
    have hil : i < σ'.length := by rw [← R'.len]; exact hlt.1
    have hjl : j < σ'.length := by rw [← R'.len]; exact hlt.2.1
    have hbl : b < σ'.length := by rw [← R'.len]; exact hlt.2.2
    have l := R'.left
    by_cases hc : c = c1
    · rw [if_pos hc] at po
      subst hc
      rw [hm1] at hC
      cases hC
      cases x with
      | none => exact po.elim
      | some d =>
        dsimp only at po
        intro dd v hdd hv
        refine ⟨true, hcs, fun _ a na => ?_, fun y => nomatch y⟩
        -- the suite: bears
        refine ⟨.ref a, by rw [List.getElem?_set_self hil], rfl, rfl, dd, _, v, rfl, hdd, rfl, by show 2 ≤ sizeLine; rw [sizeLine_eq]; omega, fun q hq => ?_⟩
        refine ⟨.ref a, by rw [List.getElem?_set_ne (Ne.symm hib), List.getElem?_set_self hil], fun na' => ?_⟩
        have hqa : q ≠ a := fun z => by rw [← z, upd_same] at na'; cases na'
        refine ⟨.ref a, by rw [List.getElem?_set_ne hij, List.getElem?_set_self (by simpa using hjl)], .inl ⟨rfl, false, by simp, ?_⟩⟩
        dsimp only
        rw [if_neg Bool.false_ne_true]
        refine ⟨.ref q, by rw [List.getElem?_set_ne hib, List.getElem?_set_ne hjb, List.getElem?_set_self (by simpa using hbl)], .inl ⟨rfl, false, by simp, ?_⟩⟩
        dsimp only
        rw [if_neg Bool.false_ne_true]
        refine ⟨.ref q, by rw [List.getElem?_set_ne hib, List.getElem?_set_ne hjb, List.getElem?_set_self (by simpa using hbl)], ?_⟩
        have k0 : ∀ b' o, H' b' = some o → (upd (upd H' q (.tup [.str key, v])) a (ExT (.ref C1) (some dd) a)) b' = some o := fun b' o e => by
          rw [upd_ne (ne_of_none e na), upd_ne (ne_of_none e hq)]; exact e
        refine po W' _ _ ⟨fun b' o h1 h2 => k0 b' o (l.fr b' o h1 h2), l.tow.same fun b' o _ e => k0 b' o e⟩ kk ?_
        refine .tup (.inl ⟨fun z => R'.free hq ?_, by rw [upd_ne hqa, upd_same]⟩) (.cons (.str key) (.cons ?_ .nil))
        · rcases z with z | z
          · exact .inl z
          · exact .inr (.inr z)
        · refine (hv.fz (Fz.of_same k0)).weak fun a' z => ?_
          rcases z with z | z
          · exact .inl z
          · exact .inr (.inr z)
    · rw [if_neg hc] at po
      match eg : g c, po with
      | none, po => exact po.elim
      | some w, po =>
        cases x with
        | none =>
          refine ⟨false, hc0 c C w hc hC eg, (fun y => nomatch y), fun _ => ⟨true, hcl c C w hC eg, fun _ a na => ?_, fun y => nomatch y⟩⟩
          refine ⟨.ref a, by rw [List.getElem?_set_ne (Ne.symm hib), List.getElem?_set_self hil], fun na' => ?_⟩
          refine ⟨.ref a, by rw [List.getElem?_set_ne hij, List.getElem?_set_self (by simpa using hjl)], .inl ⟨rfl, false, by simp, ?_⟩⟩
          dsimp only
          rw [if_neg Bool.false_ne_true]
          refine ⟨.non, by rw [List.getElem?_set_ne hib, List.getElem?_set_ne hjb, List.getElem?_set_self (by simpa using hbl)], .inl ⟨rfl, true, by simp, ?_⟩⟩
          dsimp only
          rw [if_pos rfl]
          refine ⟨.ref a, by rw [List.getElem?_set_ne hij, List.getElem?_set_self (by simpa using hjl)], ?_⟩
          refine ⟨a, C, c, w, rfl, .none upd_same, hC, eg, fun H'' sm => ?_⟩
          have k0 : ∀ b o, H' b = some o → H'' b = some o := fun b o e => sm b o (by rw [upd_ne (ne_of_none e na')]; exact e)
          refine po W' _ H'' ⟨fun b o h1 h2 => k0 b o (l.fr b o h1 h2), l.tow.same fun b o _ e => k0 b o e⟩ kk (.str w)
        | some d =>
          intro dd v hdd _
          refine ⟨false, hc0 c C w hc hC eg, (fun y => nomatch y), fun _ => ⟨true, hcl c C w hC eg, fun _ a na => ?_, fun y => nomatch y⟩⟩
          refine ⟨.ref a, by rw [List.getElem?_set_ne (Ne.symm hib), List.getElem?_set_self hil], fun na' => ?_⟩
          refine ⟨.ref a, by rw [List.getElem?_set_ne hij, List.getElem?_set_self (by simpa using hjl)], .inl ⟨rfl, false, by simp, ?_⟩⟩
          dsimp only
          rw [if_neg Bool.false_ne_true]
          refine ⟨.non, by rw [List.getElem?_set_ne hib, List.getElem?_set_ne hjb, List.getElem?_set_self (by simpa using hbl)], .inl ⟨rfl, true, by simp, ?_⟩⟩
          dsimp only
          rw [if_pos rfl]
          refine ⟨.ref a, by rw [List.getElem?_set_ne hij, List.getElem?_set_self (by simpa using hjl)], ?_⟩
          refine ⟨a, C, c, w, rfl, .own upd_same (by rw [upd_ne (ne_of_none hdd na')]; exact hdd), hC, eg, fun H'' sm => ?_⟩
          have k0 : ∀ b o, H' b = some o → H'' b = some o := fun b o e => sm b o (by rw [upd_ne (ne_of_none e na')]; exact e)
          refine po W' _ H'' ⟨fun b o h1 h2 => k0 b o (l.fr b o h1 h2), l.tow.same fun b o _ e => k0 b o e⟩ kk (.str w)
end
end Fx
-- Fe1
namespace Fx
open PySem PySem.Spec L2
/-! ### values of what may raise -/
section
variable {f1 f2 f fc : FeX} {c : Fe} {fa fk : Fa} {s s1 s2 : S} {F F1 F2 : FsX} {G1 : Fs} {r : Option (FlX × S)} {e : Str} {x : Option D} {d : D} {g : List D → Option Rx} {xs ys : List D} {n m : Nat} {q : Rx} {l : List C}
theorem xSeq_ev (h1 : F1 s = some (.fl .next, s1)) (h2 : F2 s1 = r) : xSeq F1 F2 s = r := by unfold xSeq; rw [h1]; exact h2
theorem xSeq_exc (h1 : F1 s = some (.exc e x, s1)) : xSeq F1 F2 s = some (.exc e x, s1) := by unfold xSeq; rw [h1]
theorem xSeq_ret (h1 : F1 s = some (.fl (.ret d), s1)) : xSeq F1 F2 s = some (.fl (.ret d), s1) := by unfold xSeq; rw [h1]
theorem xS_ev {fl : Fl} (h : G1 s = some (fl, s1)) : xS G1 s = some (.fl fl, s1) := by unfold xS; rw [h]; rfl
theorem xIf_f (h1 : c s = some (.bool false, s1)) (h2 : F2 s1 = r) : xIf c F1 F2 s = r := by unfold xIf; rw [h1]; exact h2
theorem xIf_t (h1 : c s = some (.bool true, s1)) (h2 : F1 s1 = r) : xIf c F1 F2 s = r := by unfold xIf; rw [h1]; exact h2
theorem xIfX_f (h1 : fc s = some (.ok (.bool false), s1)) (h2 : F2 s1 = r) : xIfX fc F1 F2 s = r := by unfold xIfX xBind; rw [h1]; exact h2
theorem xIfX_t (h1 : fc s = some (.ok (.bool true), s1)) (h2 : F1 s1 = r) : xIfX fc F1 F2 s = r := by unfold xIfX xBind; rw [h1]; exact h2
theorem xIfX_exc (h1 : fc s = some (.exc e x, s1)) : xIfX fc F1 F2 s = some (.exc e x, s1) := by unfold xIfX xBind; rw [h1]
theorem xExpr_ok (h : f s = some (.ok d, s1)) : xExpr f s = some (.fl .next, s1) := by unfold xExpr xBind; rw [h]
theorem xExpr_exc (h : f s = some (.exc e x, s1)) : xExpr f s = some (.exc e x, s1) := by unfold xExpr xBind; rw [h]
def retX : Rx → FlX
  | .ok d => .fl (.ret d)
  | .exc e x => .exc e x
theorem xRet_ev (h : f s = some (q, s1)) : xRet f s = some (retX q, s1) := by unfold xRet xBind; rw [h]; cases q <;> rfl
theorem eFnX_ev (h1 : fa s = some (xs, s1)) (hn : xs.length = n) (h2 : g xs = some q) : eFnX n g fa s = some (q, s1) := by
  unfold eFnX
  simp only [h1, h2, hn, Option.bind_some, Option.map_some, if_true]
theorem eFnKX_ev (h1 : fa s = some (xs, s1)) (h2 : fk s1 = some (ys, s2)) (hn : xs.length = n) (hm : ys.length = m) (h3 : g (xs ++ ys) = some q) : eFnKX n m g fa fk s = some (q, s2) := by
  unfold eFnKX
  simp only [h1, h2, h3, hn, hm, Option.bind_some, Option.map_some, and_self, if_true]
theorem eIfX_f (h1 : c s = some (.bool false, s1)) {q : Option (Rx × S)} (h2 : f2 s1 = q) : eIfX c f1 f2 s = q := by unfold eIfX; rw [h1]; exact h2
theorem eIfX_t (h1 : c s = some (.bool true, s1)) {q : Option (Rx × S)} (h2 : f1 s1 = q) : eIfX c f1 f2 s = q := by unfold eIfX; rw [h1]; exact h2
theorem fnX_ret (h : F (st0 n xs) = some (retX q, ⟨l, none⟩)) : fnX n F xs = some q := by unfold fnX; rw [h]; cases q <;> rfl
theorem fnX_exc (h : F (st0 n xs) = some (.exc e x, ⟨l, none⟩)) : fnX n F xs = some (.exc e x) := by unfold fnX; rw [h]; rfl
theorem fnX_next (h : F (st0 n xs) = some (.fl .next, ⟨l, none⟩)) : fnX n F xs = some (.ok .none) := by unfold fnX; rw [h]; rfl
end
end Fx
-- k05d
namespace Fx
open PySem PySem.Spec L2
def B__law_draw : Fs := sSeq (sRow 0 2)
  (sSeq (sTw1 0 (eBin addD (eTw1 0) (eC (.int 1))))
  (sSeq (sSet 3 (eBin modD (eTw1 0) (eRowLen 2)))
  (sSeq (sSet 4 (eRowAt 2 (eVar 3)))
  (sSeq (sIf (eBin geD (eVar 4) (eC (.int 1000000000000000000)))
  (sSeq (sRowSet 2 (eVar 3) (eBin divD (eVar 4) (eVar 1)))
  (sRet (eBin modD (eVar 4) (eVar 1))))
  (sNext))
  (sSeq (sSet 5 (eBin modD (eBin addD (eVar 4) (eBin mulD (eC (.int 104729)) (eTw1 0))) (eC (.int 4294967291))))
  (sSeq (sSet 5 (eBin modD (eBin powD (eVar 5) (eC (.int 5))) (eC (.int 4294967279))))
  (sRet (eBin modD (eBin divD (eBin modD (eBin addD (eBin mulD (eBin divD (eVar 5) (eC (.int 64))) (eC (.int 69621))) (eVar 5)) (eC (.int 4294967231))) (eC (.int 8))) (eVar 1)))))))))
def g__law_draw : Tw → List D → Option (D × Tw) := fnT 6 B__law_draw
def R4 : Fe := eBin neD (eBin cntD (eVar 1) (eC (.bool true))) (eC (.int 1))
def R5 : Fe := eBin ixD (eLst (aCons (eC (.str "number")) (aCons (eC (.str "room")) (aCons (eC (.str "body")) (aCons (eC (.str "standing")) (aCons (eC (.str "not free")) (aCons (eC (.str "way")) (aCons (eC (.str "text")) (aCons (eC (.str "no deed")) (aNil)))))))))) (eBin idxDD (eVar 1) (eC (.bool true)))
def tabR : List (Str × Str) := [("BadNumber", "number"), ("BadRoom", "room"), ("BadBody", "body"), ("BadStanding", "standing"), ("NotFree", "not free")]
def gR : Str → Option Str := tabF tabR
def B_is_whole : Fs := sRet (eAnd (eUn (isiD .int) (eVar 0)) (eAnd (eUn notD (eUn (isiD .bool) (eVar 0))) (eChain leD leD (eVar 1) (eVar 0) (eVar 2))))
def g_is_whole : List D → Option D := fnV 3 B_is_whole
def B_is_rect : Fs := sSeq (sIf (eOr (eUn notD (eUn (isiD .tuple) (eVar 0))) (eOr (eBin neD (eCall lenD (aCons (eVar 0) (aNil))) (eC (.int 4))) (eUn notD (eCall allD (aCons (eComp (iterS (eVar 0)) (gNm 3) (eC (.bool true)) [3] (pEmit (eFn 3 g_is_whole (aCons (eVar 3) (aCons (eVar 1) (aCons (eVar 2) (aNil))))))) (aNil))))))
  (sRet (eC (.bool false)))
  (sNext))
  (sRet (eAnd (eBin ltD (eBin ixD (eVar 0) (eC (.int 0))) (eBin ixD (eVar 0) (eC (.int 2)))) (eBin ltD (eBin ixD (eVar 0) (eC (.int 1))) (eBin ixD (eVar 0) (eC (.int 3))))))
def g_is_rect : List D → Option D := fnV 4 B_is_rect
def B_is_room : Fs := sSeq (sIf (eOr (eUn notD (eUn (isiD .tuple) (eVar 0))) (eOr (eBin neD (eCall lenD (aCons (eVar 0) (aNil))) (eC (.int 3))) (eUn notD (eCall allD (aCons (eComp (iterS (eSl slT (eVar 0) (oNone) (oSome (eC (.int 2))))) (gNm 4) (eC (.bool true)) [4] (pEmit (eFn 3 g_is_whole (aCons (eVar 4) (aCons (eC (.int 1)) (aCons (eC (.int 60)) (aNil))))))) (aNil))))))
  (sRet (eC (.bool false)))
  (sNext))
  (sSeq (sAsg (eVar 0) (gTp 3 (gsCons (gNm 1) (gsCons (gNm 2) (gsCons (gNm 3) (gsNil))))))
  (sSeq (sIf (eOr (eUn notD (eUn (isiD .tuple) (eVar 3))) (eBin gtD (eCall lenD (aCons (eVar 3) (aNil))) (eC (.int 16))))
  (sRet (eC (.bool false)))
  (sNext))
  (sRet (eCall allD (aCons (eComp (iterS (eVar 3)) (gNm 4) (eC (.bool true)) [4] (pEmit (eAnd (eFn 3 g_is_rect (aCons (eVar 4) (aCons (eC (.int 0)) (aCons (eC (.int 60)) (aNil))))) (eAnd (eBin leD (eBin ixD (eVar 4) (eC (.int 2))) (eVar 1)) (eBin leD (eBin ixD (eVar 4) (eC (.int 3))) (eVar 2)))))) (aNil))))))
def g_is_room : List D → Option D := fnV 5 B_is_room
def C_look_room : FsX := xIf (eUn notD (eFn 1 g_is_room (aCons (eVar 0) (aNil))))
  (xRaise "BadRoom")
  (xS sNext)
def gx_look_room : List D → Option Rx := fnX 1 C_look_room
def B_is_body : Fs := sSeq (sIf (eOr (eUn notD (eUn (isiD .tuple) (eVar 0))) (eUn notD (eChain leD leD (eC (.int 1)) (eCall lenD (aCons (eVar 0) (aNil))) (eC (.int 6)))))
  (sRet (eC (.bool false)))
  (sNext))
  (sRet (eCall allD (aCons (eComp (iterS (eVar 0)) (gNm 1) (eC (.bool true)) [1] (pEmit (eFn 3 g_is_rect (aCons (eVar 1) (aCons (eUn negD (eC (.int 8))) (aCons (eC (.int 8)) (aNil))))))) (aNil))))
def g_is_body : List D → Option D := fnV 2 B_is_body
def C_look_body : FsX := xIf (eUn notD (eFn 1 g_is_body (aCons (eVar 0) (aNil))))
  (xRaise "BadBody")
  (xS sNext)
def gx_look_body : List D → Option Rx := fnX 1 C_look_body
def C_look_all : FsX := xSeq (xExpr (eFnX 1 gx_look_room (aCons (eVar 0) (aNil))))
  (xExpr (eFnX 1 gx_look_body (aCons (eVar 1) (aNil))))
def gx_look_all : List D → Option Rx := fnX 2 C_look_all
def B_is_standing : Fs := sSeq (sIf (eOr (eUn notD (eUn (isiD .tuple) (eVar 0))) (eOr (eBin neD (eCall lenD (aCons (eVar 0) (aNil))) (eC (.int 3))) (eUn notD (eFn 3 g_is_whole (aCons (eBin ixD (eVar 0) (eC (.int 2))) (aCons (eC (.int 0)) (aCons (eC (.int 3)) (aNil))))))))
  (sRet (eC (.bool false)))
  (sNext))
  (sRet (eCall allD (aCons (eComp (iterS (eSl slT (eVar 0) (oNone) (oSome (eC (.int 2))))) (gNm 1) (eC (.bool true)) [1] (pEmit (eFn 3 g_is_whole (aCons (eVar 1) (aCons (eUn negD (eC (.int 200))) (aCons (eC (.int 200)) (aNil))))))) (aNil))))
def g_is_standing : List D → Option D := fnV 2 B_is_standing
def C_look_standing : FsX := xIf (eUn notD (eFn 1 g_is_standing (aCons (eVar 0) (aNil))))
  (xRaise "BadStanding")
  (xS sNext)
def gx_look_standing : List D → Option Rx := fnX 1 C_look_standing
def B_overlap : Fs := sRet (eAnd (eBin ltD (eBin ixD (eVar 0) (eC (.int 0))) (eBin ixD (eVar 1) (eC (.int 2)))) (eAnd (eBin ltD (eBin ixD (eVar 1) (eC (.int 0))) (eBin ixD (eVar 0) (eC (.int 2)))) (eAnd (eBin ltD (eBin ixD (eVar 0) (eC (.int 1))) (eBin ixD (eVar 1) (eC (.int 3)))) (eBin ltD (eBin ixD (eVar 1) (eC (.int 1))) (eBin ixD (eVar 0) (eC (.int 3)))))))
def g_overlap : List D → Option D := fnV 2 B_overlap
def B_fits : Fs := sSeq (sAsg (eVar 0) (gTp 3 (gsCons (gNm 2) (gsCons (gNm 3) (gsCons (gNm 4) (gsNil))))))
  (sSeq (sIf (eOr (eBin ltD (eBin ixD (eVar 1) (eC (.int 0))) (eC (.int 0))) (eOr (eBin ltD (eBin ixD (eVar 1) (eC (.int 1))) (eC (.int 0))) (eOr (eBin gtD (eBin ixD (eVar 1) (eC (.int 2))) (eVar 2)) (eBin gtD (eBin ixD (eVar 1) (eC (.int 3))) (eVar 3)))))
  (sRet (eC (.bool false)))
  (sNext))
  (sRet (eUn notD (eCall anyD (aCons (eComp (iterS (eVar 4)) (gNm 5) (eC (.bool true)) [5] (pEmit (eFn 2 g_overlap (aCons (eVar 1) (aCons (eVar 5) (aNil)))))) (aNil))))))
def g_fits : List D → Option D := fnV 6 B_fits
def B_quarter : Fs := sRet (eTup (aCons (eUn negD (eBin ixD (eVar 0) (eC (.int 3)))) (aCons (eBin ixD (eVar 0) (eC (.int 0))) (aCons (eUn negD (eBin ixD (eVar 0) (eC (.int 1)))) (aCons (eBin ixD (eVar 0) (eC (.int 2))) (aNil))))))
def g_quarter : List D → Option D := fnV 1 B_quarter
def B_turned_by : Fs := sSeq (sFor (iterA range1D (aCons (eVar 1) (aNil))) (gNm 2)
  (sSet 0 (eCall tupD (aCons (eComp (iterS (eVar 0)) (gNm 3) (eC (.bool true)) [3] (pEmit (eFn 1 g_quarter (aCons (eVar 3) (aNil))))) (aNil)))))
  (sRet (eVar 0))
def g_turned_by : List D → Option D := fnV 4 B_turned_by
def B_placed : Fs := sSeq (sAsg (eVar 1) (gTp 3 (gsCons (gNm 2) (gsCons (gNm 3) (gsCons (gNm 4) (gsNil))))))
  (sRet (eComp (iterS (eFn 2 g_turned_by (aCons (eVar 0) (aCons (eVar 4) (aNil))))) (gNm 5) (eC (.bool true)) [5] (pEmit (eTup (aCons (eBin addD (eBin ixD (eVar 5) (eC (.int 0))) (eVar 2)) (aCons (eBin addD (eBin ixD (eVar 5) (eC (.int 1))) (eVar 3)) (aCons (eBin addD (eBin ixD (eVar 5) (eC (.int 2))) (eVar 2)) (aCons (eBin addD (eBin ixD (eVar 5) (eC (.int 3))) (eVar 3)) (aNil)))))))))
def g_placed : List D → Option D := fnV 6 B_placed
def B_stands : Fs := sRet (eCall allD (aCons (eComp (iterS (eFn 2 g_placed (aCons (eVar 1) (aCons (eVar 2) (aNil))))) (gNm 3) (eC (.bool true)) [3] (pEmit (eFn 2 g_fits (aCons (eVar 0) (aCons (eVar 3) (aNil)))))) (aNil)))
def g_stands : List D → Option D := fnV 4 B_stands
def C_look_free : FsX := xSeq (xExpr (eFnX 1 gx_look_standing (aCons (eVar 2) (aNil))))
  (xIf (eUn notD (eFn 3 g_stands (aCons (eVar 0) (aCons (eVar 1) (aCons (eVar 2) (aNil))))))
  (xRaiseO "NotFree" (aCons (eVar 2) (aNil)))
  (xS sNext))
def gx_look_free : List D → Option Rx := fnX 3 C_look_free
def B_slides : Fs := sSeq (sFor (iterS (eFn 2 g_placed (aCons (eVar 1) (aCons (eVar 2) (aNil))))) (gNm 5)
  (sSeq (sAsg (eVar 5) (gTp 4 (gsCons (gNm 6) (gsCons (gNm 7) (gsCons (gNm 8) (gsCons (gNm 9) (gsNil)))))))
  (sIf (eUn notD (eFn 2 g_fits (aCons (eVar 0) (aCons (eTup (aCons (eBin addD (eVar 6) (eCall min2D (aCons (eVar 3) (aCons (eC (.int 0)) (aNil))))) (aCons (eBin addD (eVar 7) (eCall min2D (aCons (eVar 4) (aCons (eC (.int 0)) (aNil))))) (aCons (eBin addD (eVar 8) (eCall max2D (aCons (eVar 3) (aCons (eC (.int 0)) (aNil))))) (aCons (eBin addD (eVar 9) (eCall max2D (aCons (eVar 4) (aCons (eC (.int 0)) (aNil))))) (aNil)))))) (aNil)))))
  (sRet (eC (.bool false)))
  (sNext))))
  (sRet (eC (.bool true)))
def g_slides : List D → Option D := fnV 10 B_slides
def C_farthest_slide : FsX := xSeq (xExpr (eFnX 2 gx_look_all (aCons (eVar 0) (aCons (eVar 1) (aNil)))))
  (xSeq (xExpr (eFnX 3 gx_look_free (aCons (eVar 0) (aCons (eVar 1) (aCons (eVar 2) (aNil))))))
  (xSeq (xIf (eOr (eBin notInD (eTup (aCons (eVar 3) (aCons (eVar 4) (aNil)))) (eTup (aCons (eTup (aCons (eC (.int 1)) (aCons (eC (.int 0)) (aNil)))) (aCons (eTup (aCons (eUn negD (eC (.int 1))) (aCons (eC (.int 0)) (aNil)))) (aCons (eTup (aCons (eC (.int 0)) (aCons (eC (.int 1)) (aNil)))) (aCons (eTup (aCons (eC (.int 0)) (aCons (eUn negD (eC (.int 1))) (aNil)))) (aNil))))))) (eOr (eUn (isiD .bool) (eVar 3)) (eUn (isiD .bool) (eVar 4))))
  (xRaise "BadNumber")
  (xS sNext))
  (xS (sSeq (sSet 5 (eC (.int 0)))
  (sSeq (sWhile 1000 (eFn 5 g_slides (aCons (eVar 0) (aCons (eVar 1) (aCons (eVar 2) (aCons (eBin mulD (eVar 3) (eBin addD (eVar 5) (eC (.int 1)))) (aCons (eBin mulD (eVar 4) (eBin addD (eVar 5) (eC (.int 1)))) (aNil)))))))
  (sAug 5 addI (eC (.int 1))))
  (sRet (eVar 5)))))))
def gx_farthest_slide : List D → Option Rx := fnX 6 C_farthest_slide
def C_may_slide : FsX := xSeq (xExpr (eFnX 2 gx_look_all (aCons (eVar 0) (aCons (eVar 1) (aNil)))))
  (xSeq (xExpr (eFnX 3 gx_look_free (aCons (eVar 0) (aCons (eVar 1) (aCons (eVar 2) (aNil))))))
  (xSeq (xIf (eOr (eUn notD (eFn 3 g_is_whole (aCons (eVar 3) (aCons (eUn negD (eC (.int 200))) (aCons (eC (.int 200)) (aNil)))))) (eOr (eUn notD (eFn 3 g_is_whole (aCons (eVar 4) (aCons (eUn negD (eC (.int 200))) (aCons (eC (.int 200)) (aNil)))))) (eAnd (eBin neD (eVar 3) (eC (.int 0))) (eBin neD (eVar 4) (eC (.int 0))))))
  (xRaise "BadNumber")
  (xS sNext))
  (xS (sRet (eFn 5 g_slides (aCons (eVar 0) (aCons (eVar 1) (aCons (eVar 2) (aCons (eVar 3) (aCons (eVar 4) (aNil)))))))))))
def gx_may_slide : List D → Option Rx := fnX 5 C_may_slide
def B__law_slide : Fs := sSeq (sSet 4 (eC .none))
  (sSeq (sAsg (eTup (aCons (eTup (aCons (eC (.int 5)) (aCons (eC (.int 5)) (aCons (eTup (aNil)) (aNil))))) (aCons (eTup (aCons (eTup (aCons (eC (.int 0)) (aCons (eC (.int 0)) (aCons (eC (.int 1)) (aCons (eC (.int 1)) (aNil)))))) (aNil))) (aNil)))) (gTp 2 (gsCons (gNm 6) (gsCons (gNm 7) (gsNil)))))
  (sTry1 5 4 "told" (xIf (eVar 3)
  (xExpr (eFnKX 3 2 gx_farthest_slide (aCons (eVar 6) (aCons (eVar 7) (aCons (eVar 0) (aNil)))) (aCons (eVar 1) (aCons (eVar 2) (aNil)))))
  (xExpr (eFnKX 3 2 gx_may_slide (aCons (eVar 6) (aCons (eVar 7) (aCons (eVar 0) (aNil)))) (aCons (eVar 1) (aCons (eVar 2) (aNil)))))) gR))
def g__law_slide : List D → Option D := fnV 8 B__law_slide
def B_frame_of : Fs := sRet (eCall maxLD (aCons (eComp (iterS (eVar 0)) (gNm 1) (eC (.bool true)) [1, 2] (pFor (iterS (eVar 1)) (gNm 2) (eC (.bool true)) [2] (pEmit (eCall absD (aCons (eVar 2) (aNil)))))) (aNil)))
def g_frame_of : List D → Option D := fnV 3 B_frame_of
def B_turns_at : Fs := sSeq (sSet 4 (eFn 1 g_frame_of (aCons (eVar 1) (aNil))))
  (sRet (eFn 2 g_fits (aCons (eVar 0) (aCons (eTup (aCons (eBin subD (eVar 2) (eVar 4)) (aCons (eBin subD (eVar 3) (eVar 4)) (aCons (eBin addD (eVar 2) (eVar 4)) (aCons (eBin addD (eVar 3) (eVar 4)) (aNil)))))) (aNil)))))
def g_turns_at : List D → Option D := fnV 5 B_turns_at
def C_may_turn : FsX := xSeq (xExpr (eFnX 2 gx_look_all (aCons (eVar 0) (aCons (eVar 1) (aNil)))))
  (xSeq (xExpr (eFnX 3 gx_look_free (aCons (eVar 0) (aCons (eVar 1) (aCons (eVar 2) (aNil))))))
  (xS (sRet (eFn 4 g_turns_at (aCons (eVar 0) (aCons (eVar 1) (aCons (eBin ixD (eVar 2) (eC (.int 0))) (aCons (eBin ixD (eVar 2) (eC (.int 1))) (aNil)))))))))
def gx_may_turn : List D → Option Rx := fnX 3 C_may_turn
def B_gap_between : Fs := sSeq (sSet 2 (eCall max2D (aCons (eBin subD (eBin ixD (eVar 0) (eC (.int 0))) (eBin ixD (eVar 1) (eC (.int 2)))) (aCons (eBin subD (eBin ixD (eVar 1) (eC (.int 0))) (eBin ixD (eVar 0) (eC (.int 2)))) (aNil)))))
  (sSeq (sSet 3 (eCall max2D (aCons (eBin subD (eBin ixD (eVar 0) (eC (.int 1))) (eBin ixD (eVar 1) (eC (.int 3)))) (aCons (eBin subD (eBin ixD (eVar 1) (eC (.int 1))) (eBin ixD (eVar 0) (eC (.int 3)))) (aNil)))))
  (sRet (eCall max3D (aCons (eVar 2) (aCons (eVar 3) (aCons (eC (.int 0)) (aNil)))))))
def g_gap_between : List D → Option D := fnV 4 B_gap_between
def B_room_at : Fs := sSeq (sAsg (eVar 0) (gTp 3 (gsCons (gNm 5) (gsCons (gNm 6) (gsCons (gNm 7) (gsNil))))))
  (sSeq (sSetF 3 (eLst (aNil)))
  (sSeq (sFor (iterS (eFn 2 g_placed (aCons (eVar 1) (aCons (eVar 2) (aNil))))) (gNm 4)
  (sSeq (sExt 3 (eLst (aCons (eBin ixD (eVar 4) (eC (.int 0))) (aCons (eBin ixD (eVar 4) (eC (.int 1))) (aCons (eBin subD (eVar 5) (eBin ixD (eVar 4) (eC (.int 2)))) (aCons (eBin subD (eVar 6) (eBin ixD (eVar 4) (eC (.int 3)))) (aNil)))))))
  (sExt 3 (eComp (iterS (eVar 7)) (gNm 8) (eC (.bool true)) [8] (pEmit (eFn 2 g_gap_between (aCons (eVar 4) (aCons (eVar 8) (aNil)))))))))
  (sFrz 3 (sRet (eCall minLD (aCons (eVar 3) (aNil)))))))
def g_room_at : List D → Option D := fnV 9 B_room_at
def C_clearance : FsX := xSeq (xExpr (eFnX 2 gx_look_all (aCons (eVar 0) (aCons (eVar 1) (aNil)))))
  (xSeq (xExpr (eFnX 3 gx_look_free (aCons (eVar 0) (aCons (eVar 1) (aCons (eVar 2) (aNil))))))
  (xS (sRet (eFn 3 g_room_at (aCons (eVar 0) (aCons (eVar 1) (aCons (eVar 2) (aNil))))))))
def gx_clearance : List D → Option Rx := fnX 3 C_clearance
def B_edges_of : Fs := sSeq (sAsg (eVar 0) (gTp 3 (gsCons (gNm 3) (gsCons (gNm 4) (gsCons (gNm 5) (gsNil))))))
  (sSeq (sSet 1 (eUn sortSetD (eBin catD (eLst (aCons (eC (.int 0)) (aCons (eVar 3) (aNil)))) (eComp (iterS (eVar 5)) (gNm 6) (eC (.bool true)) [6, 7] (pFor (iterS (eTup (aCons (eBin ixD (eVar 6) (eC (.int 0))) (aCons (eBin ixD (eVar 6) (eC (.int 2))) (aNil))))) (gNm 7) (eC (.bool true)) [7] (pEmit (eVar 7)))))))
  (sSeq (sSet 2 (eUn sortSetD (eBin catD (eLst (aCons (eC (.int 0)) (aCons (eVar 4) (aNil)))) (eComp (iterS (eVar 5)) (gNm 6) (eC (.bool true)) [6, 7] (pFor (iterS (eTup (aCons (eBin ixD (eVar 6) (eC (.int 1))) (aCons (eBin ixD (eVar 6) (eC (.int 3))) (aNil))))) (gNm 7) (eC (.bool true)) [7] (pEmit (eVar 7)))))))
  (sRet (eTup (aCons (eVar 1) (aCons (eVar 2) (aNil)))))))
def g_edges_of : List D → Option D := fnV 8 B_edges_of
def B_lines_for : Fs := sSeq (sAsg (eFn 1 g_edges_of (aCons (eVar 0) (aNil))) (gTp 2 (gsCons (gNm 7) (gsCons (gNm 8) (gsNil)))))
  (sSeq (sSet 3 (eFn 1 g_frame_of (aCons (eVar 1) (aNil))))
  (sSeq (sSetF 4 (eComp (iterS (eVar 2)) (gNm 10) (eC (.bool true)) [10] (pEmit (eBin ixD (eVar 10) (eC (.int 0))))))
  (sSeq (sSetF 5 (eComp (iterS (eVar 2)) (gNm 10) (eC (.bool true)) [10] (pEmit (eBin ixD (eVar 10) (eC (.int 1))))))
  (sSeq (sFor (iterA range1D (aCons (eC (.int 4)) (aNil))) (gNm 6)
  (sSeq (sSet 9 (eBin addD (eFn 2 g_turned_by (aCons (eVar 1) (aCons (eVar 6) (aNil)))) (eTup (aCons (eTup (aCons (eUn negD (eVar 3)) (aCons (eUn negD (eVar 3)) (aCons (eVar 3) (aCons (eVar 3) (aNil)))))) (aNil)))))
  (sSeq (sExt 4 (eComp (iterS (eVar 7)) (gNm 11) (eC (.bool true)) [11, 12, 10] (pFor (iterS (eVar 9)) (gNm 12) (eC (.bool true)) [12] (pFor (iterS (eTup (aCons (eBin ixD (eVar 12) (eC (.int 0))) (aCons (eBin ixD (eVar 12) (eC (.int 2))) (aNil))))) (gNm 10) (eC (.bool true)) [10] (pEmit (eBin subD (eVar 11) (eVar 10)))))))
  (sExt 5 (eComp (iterS (eVar 8)) (gNm 11) (eC (.bool true)) [11, 12, 10] (pFor (iterS (eVar 9)) (gNm 12) (eC (.bool true)) [12] (pFor (iterS (eTup (aCons (eBin ixD (eVar 12) (eC (.int 1))) (aCons (eBin ixD (eVar 12) (eC (.int 3))) (aNil))))) (gNm 10) (eC (.bool true)) [10] (pEmit (eBin subD (eVar 11) (eVar 10))))))))))
  (sFrz 5 (sFrz 4 (sRet (eTup (aCons (eUn sortSetD (eVar 4)) (aCons (eUn sortSetD (eVar 5)) (aNil)))))))))))
def g_lines_for : List D → Option D := fnV 13 B_lines_for
def B_next_to : Fs := sSeq (sSet 2 (eBin idxD (eVar 0) (eVar 1)))
  (sRet (eBin catD (eSl slL (eVar 0) (oSome (eCall max2D (aCons (eC (.int 0)) (aCons (eBin subD (eVar 2) (eC (.int 1))) (aNil))))) (oSome (eVar 2))) (eSl slL (eVar 0) (oSome (eBin addD (eVar 2) (eC (.int 1)))) (oSome (eBin addD (eVar 2) (eC (.int 2)))))))
def g_next_to : List D → Option D := fnV 3 B_next_to
def B_neighbours : Fs := sSeq (sAsg (eVar 4) (gTp 3 (gsCons (gNm 7) (gsCons (gNm 8) (gsCons (gNm 9) (gsNil))))))
  (sSeq (sSetF 5 (eLst (aNil)))
  (sSeq (sFor (iterS (eFn 2 g_next_to (aCons (eVar 2) (aCons (eVar 7) (aNil))))) (gNm 6)
  (sIf (eFn 5 g_slides (aCons (eVar 0) (aCons (eVar 1) (aCons (eVar 4) (aCons (eBin subD (eVar 6) (eVar 7)) (aCons (eC (.int 0)) (aNil)))))))
  (sApp 5 (eTup (aCons (eVar 6) (aCons (eVar 8) (aCons (eVar 9) (aNil))))))
  (sNext)))
  (sSeq (sFor (iterS (eFn 2 g_next_to (aCons (eVar 3) (aCons (eVar 8) (aNil))))) (gNm 6)
  (sIf (eFn 5 g_slides (aCons (eVar 0) (aCons (eVar 1) (aCons (eVar 4) (aCons (eC (.int 0)) (aCons (eBin subD (eVar 6) (eVar 8)) (aNil)))))))
  (sApp 5 (eTup (aCons (eVar 7) (aCons (eVar 6) (aCons (eVar 9) (aNil))))))
  (sNext)))
  (sSeq (sIf (eFn 4 g_turns_at (aCons (eVar 0) (aCons (eVar 1) (aCons (eVar 7) (aCons (eVar 8) (aNil))))))
  (sExt 5 (eLst (aCons (eTup (aCons (eVar 7) (aCons (eVar 8) (aCons (eBin modD (eBin addD (eVar 9) (eC (.int 1))) (eC (.int 4))) (aNil))))) (aCons (eTup (aCons (eVar 7) (aCons (eVar 8) (aCons (eBin modD (eBin addD (eVar 9) (eC (.int 3))) (eC (.int 4))) (aNil))))) (aNil)))))
  (sNext))
  (sFrz 5 (sRet (eCall sortedD (aCons (eVar 5) (aNil)))))))))
def g_neighbours : List D → Option D := fnV 10 B_neighbours
def B_come_to : Fs := sSeq (sAsg (eFn 3 g_lines_for (aCons (eVar 0) (aCons (eVar 1) (aCons (eVar 3) (aNil))))) (gTp 2 (gsCons (gNm 7) (gsCons (gNm 8) (gsNil)))))
  (sSeq (sNo)
  (sSeq (sSetF 5 (eLst (aCons (eVar 2) (aNil))))
  (sSeq (sSet 6 (eC (.int 0)))
  (sSeq (sWhile 1000 (eBin ltD (eVar 6) (eOwnS 5 len1))
  (sSeq (sFor (iterS (eFn 5 g_neighbours (aCons (eVar 0) (aCons (eVar 1) (aCons (eVar 7) (aCons (eVar 8) (aCons (eIxO 5 (eVar 6)) (aNil)))))))) (gNm 9)
  (sIf (eBin notInY (eVar 9) (eVar 4))
  (sSeq (sNo)
  (sApp 5 (eVar 9)))
  (sNext)))
  (sAug 6 addI (eC (.int 1)))))
  (sFrz 5 (sRet (eCall sortedD (aCons (eVar 5) (aNil)))))))))
def g_come_to : List D → Option D := fnV 10 B_come_to
def C_reach : FsX := xSeq (xExpr (eFnX 2 gx_look_all (aCons (eVar 0) (aCons (eVar 1) (aNil)))))
  (xSeq (xExpr (eFnX 3 gx_look_free (aCons (eVar 0) (aCons (eVar 1) (aCons (eVar 2) (aNil))))))
  (xS (sSeq (sSet 3 (eFn 4 g_come_to (aCons (eVar 0) (aCons (eVar 1) (aCons (eVar 2) (aCons (eLst (aCons (eVar 2) (aNil))) (aNil)))))))
  (sNo))))
def gx_reach : List D → Option Rx := fnX 5 C_reach
def C_lines : FsX := xSeq (xExpr (eFnX 1 gx_look_room (aCons (eVar 0) (aNil))))
  (xSeq (xExpr (eFnX 1 gx_look_body (aCons (eVar 1) (aNil))))
  (xSeq (xIf (eUn notD (eUn (isi2E .list .tuple) (eVar 2)))
  (xRaise "BadStanding")
  (xS sNext))
  (xSeq (xFor (iterS (eVar 2)) (gNm 3)
  (xExpr (eFnX 1 gx_look_standing (aCons (eVar 3) (aNil)))))
  (xS (sRet (eFn 3 g_lines_for (aCons (eVar 0) (aCons (eVar 1) (aCons (eVar 2) (aNil))))))))))
def gx_lines : List D → Option Rx := fnX 4 C_lines
def C_corners : FsX := xSeq (xAsg (eFnX 3 gx_lines (aCons (eVar 0) (aCons (eVar 1) (aCons (eVar 2) (aNil))))) (gTp 2 (gsCons (gNm 3) (gsCons (gNm 4) (gsNil)))))
  (xS (sRet (eComp (iterS (eVar 3)) (gNm 5) (eC (.bool true)) [5, 6, 7] (pFor (iterS (eVar 4)) (gNm 6) (eC (.bool true)) [6] (pFor (iterA range1D (aCons (eC (.int 4)) (aNil))) (gNm 7) (eFn 3 g_stands (aCons (eVar 0) (aCons (eVar 1) (aCons (eTup (aCons (eVar 5) (aCons (eVar 6) (aCons (eVar 7) (aNil))))) (aNil))))) [7] (pEmit (eTup (aCons (eVar 5) (aCons (eVar 6) (aCons (eVar 7) (aNil)))))))))))
def gx_corners : List D → Option Rx := fnX 8 C_corners
def C_parts_of : FsX := xSeq (xExpr (eFnX 2 gx_look_all (aCons (eVar 0) (aCons (eVar 1) (aNil)))))
  (xSeq (xAsg (eFnEX 2 gx_corners (aCons (eVar 0) (aCons (eVar 1) (aNil)))) (gNm 2))
  (xS (sSeq (sAsg (eFn 3 g_lines_for (aCons (eVar 0) (aCons (eVar 1) (aCons (eLst (aNil)) (aNil))))) (gTp 2 (gsCons (gNm 6) (gsCons (gNm 7) (gsNil)))))
  (sSeq (sSetF 3 (eLst (aNil)))
  (sSeq (sSetF 4 (eC (.dict [])))
  (sSeq (sFor (iterS (eVar 2)) (gNm 5)
  (sIf (eDO 4 notInY (eVar 5))
  (sSeq (sPutY 4 (eVar 5) (eC (.bool true)))
  (sSeq (sSetF 8 (eLst (aCons (eVar 5) (aNil))))
  (sSeq (sSet 9 (eC (.int 0)))
  (sSeq (sWhile 1000 (eBin ltD (eVar 9) (eOwnS 8 len1))
  (sSeq (sFor (iterS (eFn 5 g_neighbours (aCons (eVar 0) (aCons (eVar 1) (aCons (eVar 6) (aCons (eVar 7) (aCons (eIxO 8 (eVar 9)) (aNil)))))))) (gNm 10)
  (sIf (eDO 4 notInY (eVar 10))
  (sSeq (sPutY 4 (eVar 10) (eC (.bool true)))
  (sApp 8 (eVar 10)))
  (sNext)))
  (sAug 9 addI (eC (.int 1)))))
  (sFrz 8 (sApp 3 (eCall sortedD (aCons (eVar 8) (aNil)))))))))
  (sNext)))
  (sRetO 3)))))))
def gx_parts_of : List D → Option Rx := fnX 11 C_parts_of
def C_parts : FsX := xRet (eOnly (eFnX 2 gx_parts_of (aCons (eVar 0) (aCons (eVar 1) (aNil)))))
def gx_parts : List D → Option Rx := fnX 3 C_parts
def C_part_of : FsX := xSeq (xExpr (eFnX 2 gx_look_all (aCons (eVar 0) (aCons (eVar 1) (aNil)))))
  (xSeq (xExpr (eFnX 3 gx_look_free (aCons (eVar 0) (aCons (eVar 1) (aCons (eVar 2) (aNil))))))
  (xSeq (xS (sSet 3 (eFn 4 g_come_to (aCons (eVar 0) (aCons (eVar 1) (aCons (eVar 2) (aCons (eLst (aCons (eVar 2) (aNil))) (aNil))))))))
  (xSeq (xAsg (eFnX 2 gx_parts (aCons (eVar 0) (aCons (eVar 1) (aNil)))) (gNm 4))
  (xS (sRet (eBin ixD (eComp (iterA range1D (aCons (eCall lenD (aCons (eVar 4) (aNil))) (aNil))) (gNm 5) (eBin inD (eBin ixD (eVar 4) (eVar 5)) (eVar 3)) [5] (pEmit (eVar 5))) (eC (.int 0))))))))
def gx_part_of : List D → Option Rx := fnX 6 C_part_of
def C_look_number : FsX := xIf (eUn notD (eFn 3 g_is_whole (aCons (eVar 0) (aCons (eVar 1) (aCons (eVar 2) (aNil))))))
  (xRaise "BadNumber")
  (xS sNext)
def gx_look_number : List D → Option Rx := fnX 3 C_look_number
def B_led_back : Fs := sSeq (sSetF 2 (eLst (aCons (eVar 1) (aNil))))
  (sSeq (sWhile 1000 (eBin isntD (eBin ixY (eVar 0) (eIxO 2 (eUn negD (eC (.int 1))))) (eC .none))
  (sApp 2 (eBin ixY (eVar 0) (eIxO 2 (eUn negD (eC (.int 1)))))))
  (sFrz 2 (sRet (eUn revD (eVar 2)))))
def g_led_back : List D → Option D := fnV 3 B_led_back
def B_length_of : Fs := sSeq (sIf (eBin neD (eBin ixD (eVar 0) (eC (.int 2))) (eBin ixD (eVar 1) (eC (.int 2))))
  (sRet (eVar 2))
  (sNext))
  (sRet (eBin addD (eCall absD (aCons (eBin subD (eBin ixD (eVar 0) (eC (.int 0))) (eBin ixD (eVar 1) (eC (.int 0)))) (aNil))) (eCall absD (aCons (eBin subD (eBin ixD (eVar 0) (eC (.int 1))) (eBin ixD (eVar 1) (eC (.int 1)))) (aNil)))))
def g_length_of : List D → Option D := fnV 3 B_length_of
def B_sought : Fs := sSeq (sAsg (eFn 3 g_lines_for (aCons (eVar 0) (aCons (eVar 1) (aCons (eLst (aCons (eVar 2) (aCons (eVar 3) (aNil)))) (aNil))))) (gTp 2 (gsCons (gNm 9) (gsCons (gNm 10) (gsNil)))))
  (sSeq (sNo)
  (sSeq (sNo)
  (sSeq (sNo)
  (sSeq (sSetF 8 (eC (.dict [])))
  (sSeq (sNo)
  (sRet (eC .none)))))))
def g_sought : List D → Option D := fnV 15 B_sought
def B_is_straight : Fs := sSeq (sIf (eUn notD (eChain eqD eqD (eBin ixD (eVar 0) (eC (.int 2))) (eBin ixD (eVar 1) (eC (.int 2))) (eBin ixD (eVar 2) (eC (.int 2)))))
  (sRet (eC (.bool false)))
  (sNext))
  (sSeq (sSet 3 (eAnd (eChain eqD eqD (eBin ixD (eVar 0) (eC (.int 0))) (eBin ixD (eVar 1) (eC (.int 0))) (eBin ixD (eVar 2) (eC (.int 0)))) (eBin gtD (eBin mulD (eBin subD (eBin ixD (eVar 1) (eC (.int 1))) (eBin ixD (eVar 0) (eC (.int 1)))) (eBin subD (eBin ixD (eVar 2) (eC (.int 1))) (eBin ixD (eVar 1) (eC (.int 1))))) (eC (.int 0)))))
  (sSeq (sSet 4 (eAnd (eChain eqD eqD (eBin ixD (eVar 0) (eC (.int 1))) (eBin ixD (eVar 1) (eC (.int 1))) (eBin ixD (eVar 2) (eC (.int 1)))) (eBin gtD (eBin mulD (eBin subD (eBin ixD (eVar 1) (eC (.int 0))) (eBin ixD (eVar 0) (eC (.int 0)))) (eBin subD (eBin ixD (eVar 2) (eC (.int 0))) (eBin ixD (eVar 1) (eC (.int 0))))) (eC (.int 0)))))
  (sRet (eOr (eVar 3) (eVar 4)))))
def g_is_straight : List D → Option D := fnV 5 B_is_straight
def B_shortened : Fs := sSeq (sSetF 1 (eLst (aNil)))
  (sSeq (sFor (iterS (eVar 0)) (gNm 2)
  (sSeq (sWhile 1000 (eAnd (eBin gtD (eOwnS 1 len1) (eC (.int 1))) (eFn 3 g_is_straight (aCons (eIxO 1 (eUn negD (eC (.int 2)))) (aCons (eIxO 1 (eUn negD (eC (.int 1)))) (aCons (eVar 2) (aNil))))))
  (sNo))
  (sApp 1 (eVar 2))))
  (sRetO 1))
def g_shortened : List D → Option D := fnV 3 B_shortened
def C_way : FsX := xSeq (xExpr (eFnX 2 gx_look_all (aCons (eVar 0) (aCons (eVar 1) (aNil)))))
  (xSeq (xExpr (eFnX 3 gx_look_free (aCons (eVar 0) (aCons (eVar 1) (aCons (eVar 2) (aNil))))))
  (xSeq (xExpr (eFnX 3 gx_look_free (aCons (eVar 0) (aCons (eVar 1) (aCons (eVar 3) (aNil))))))
  (xSeq (xExpr (eFnX 3 gx_look_number (aCons (eVar 4) (aCons (eC (.int 0)) (aCons (eC (.int 1000)) (aNil))))))
  (xS (sSeq (sSet 5 (eFn 5 g_sought (aCons (eVar 0) (aCons (eVar 1) (aCons (eVar 2) (aCons (eVar 3) (aCons (eVar 4) (aNil))))))))
  (sRet (eIf (eBin isND (eVar 5) (eC .none)) (eC .none) (eTup (aCons (eBin ixD (eVar 5) (eC (.int 0))) (aCons (eFn 1 g_shortened (aCons (eBin ixD (eVar 5) (eC (.int 1))) (aNil))) (aNil)))))))))))
def gx_way : List D → Option Rx := fnX 6 C_way
def C_is_free : FsX := xSeq (xExpr (eFnX 2 gx_look_all (aCons (eVar 0) (aCons (eVar 1) (aNil)))))
  (xSeq (xExpr (eFnX 1 gx_look_standing (aCons (eVar 2) (aNil))))
  (xS (sRet (eFn 3 g_stands (aCons (eVar 0) (aCons (eVar 1) (aCons (eVar 2) (aNil))))))))
def gx_is_free : List D → Option Rx := fnX 3 C_is_free
def C__law_does : FsX := xSeq (xIf (eBin eqD (eVar 0) (eC (.int 0)))
  (xRet (eFnDX 3 [0, 0] gx_may_slide (aCons (eVar 1) (aCons (eVar 2) (aCons (eVar 3) (aNil))))))
  (xS sNext))
  (xSeq (xIf (eBin eqD (eVar 0) (eC (.int 1)))
  (xRet (eFnX 3 gx_may_turn (aCons (eVar 1) (aCons (eVar 2) (aCons (eVar 3) (aNil))))))
  (xS sNext))
  (xSeq (xIf (eBin eqD (eVar 0) (eC (.int 2)))
  (xRet (eFnNX 3 1 .pkm [0] gx_farthest_slide (aCons (eVar 1) (aCons (eVar 2) (aCons (eVar 3) (aNil)))) (aCons (eC (.int 1)) (aNil))))
  (xS sNext))
  (xSeq (xIf (eBin eqD (eVar 0) (eC (.int 3)))
  (xRet (eFnX 3 gx_clearance (aCons (eVar 1) (aCons (eVar 2) (aCons (eVar 3) (aNil))))))
  (xS sNext))
  (xSeq (xIf (eBin eqD (eVar 0) (eC (.int 4)))
  (xRet (eFnX 3 gx_reach (aCons (eVar 1) (aCons (eVar 2) (aCons (eVar 3) (aNil))))))
  (xS sNext))
  (xRet (eIfX (eBin eqD (eVar 0) (eC (.int 5))) (eFnX 3 gx_part_of (aCons (eVar 1) (aCons (eVar 2) (aCons (eVar 3) (aNil))))) (eIfX (eBin eqD (eVar 0) (eC (.int 6))) (eFnDX 4 [1] gx_way (aCons (eVar 1) (aCons (eVar 2) (aCons (eVar 3) (aCons (eVar 3) (aNil)))))) (eFnX 3 gx_is_free (aCons (eVar 1) (aCons (eVar 2) (aCons (eVar 3) (aNil))))))))))))
def gx__law_does : List D → Option Rx := fnX 4 C__law_does
def B__law_asked : Fs := sSeq (sSet 4 (eC .none))
  (sSeq (sSet 5 (eC .none))
  (sTry2 6 4 5 "told" "not free" "NotFree" (xExpr (eFnX 4 gx__law_does (aCons (eVar 0) (aCons (eVar 1) (aCons (eVar 2) (aCons (eVar 3) (aNil))))))) gR))
def g__law_asked : List D → Option D := fnV 7 B__law_asked
def B_law : Fs := sSeq (sAsg (eTup (aCons (eTup (aCons (eC (.int 5)) (aCons (eC (.int 4)) (aCons (eTup (aCons (eTup (aCons (eC (.int 1)) (aCons (eC (.int 1)) (aCons (eC (.int 3)) (aCons (eC (.int 2)) (aNil)))))) (aNil))) (aNil))))) (aCons (eTup (aCons (eTup (aCons (eC (.int 0)) (aCons (eC (.int 0)) (aCons (eC (.int 1)) (aCons (eC (.int 1)) (aNil)))))) (aNil))) (aNil)))) (gTp 2 (gsCons (gNm 5) (gsCons (gNm 6) (gsNil)))))
  (sSeq (sSet 2 (eLst (aCons (eC .none) (aCons (eC (.int 5)) (aCons (eTup (aCons (eC (.int 0)) (aCons (eC (.int 4)) (aCons (eTup (aNil)) (aNil))))) (aCons (eTup (aCons (eC (.int 61)) (aCons (eC (.int 4)) (aCons (eTup (aNil)) (aNil))))) (aCons (eTup (aCons (eC (.int 5)) (aCons (eC (.int 4)) (aNil)))) (aCons (eLst (aCons (eC (.int 5)) (aCons (eC (.int 4)) (aCons (eTup (aNil)) (aNil))))) (aCons (eTup (aCons (eC (.int 5)) (aCons (eC (.int 4)) (aCons (eLst (aNil)) (aNil))))) (aCons (eTup (aCons (eC (.int 5)) (aCons (eC (.int 4)) (aCons (eTup (aCons (eTup (aCons (eC (.int 0)) (aCons (eC (.int 0)) (aCons (eC (.int 6)) (aCons (eC (.int 1)) (aNil)))))) (aNil))) (aNil))))) (aCons (eTup (aCons (eC (.int 5)) (aCons (eC (.int 4)) (aCons (eTup (aCons (eTup (aCons (eC (.int 1)) (aCons (eC (.int 1)) (aCons (eC (.int 1)) (aCons (eC (.int 2)) (aNil)))))) (aNil))) (aNil))))) (aNil))))))))))))
  (sSeq (sSet 2 (eBin catD (eVar 2) (eLst (aCons (eTup (aCons (eC (.int 5)) (aCons (eC (.int 4)) (aCons (eTup (aCons (eTup (aCons (eC (.int 0)) (aCons (eC (.int 0)) (aCons (eC (.int 1)) (aNil))))) (aNil))) (aNil))))) (aCons (eTup (aCons (eC (.bool true)) (aCons (eC (.int 4)) (aCons (eTup (aNil)) (aNil))))) (aCons (eTup (aCons (eC (.int 5)) (aCons (eC (.int 4)) (aCons (eBin repT (eTup (aCons (eTup (aCons (eC (.int 0)) (aCons (eC (.int 0)) (aCons (eC (.int 1)) (aCons (eC (.int 1)) (aNil)))))) (aNil))) (eC (.int 17))) (aNil))))) (aCons (eTup (aCons (eC (.int 5)) (aCons (eC (.int 4)) (aCons (eTup (aCons (eTup (aCons (eBin subD (eC (.int 0)) (eC (.int 1))) (aCons (eC (.int 0)) (aCons (eC (.int 1)) (aCons (eC (.int 1)) (aNil)))))) (aNil))) (aNil))))) (aCons (eTup (aCons (eC (.int 5)) (aCons (eC (.int 4)) (aCons (eTup (aCons (eC .none) (aNil))) (aNil))))) (aNil)))))))))
  (sSeq (sFor (iterS (eVar 2)) (gNm 3)
  (sIf (eOr (eBin neD (eComp (iterA range1D (aCons (eC (.int 8)) (aNil))) (gNm 9) (eC (.bool true)) [9] (pEmit (eFn 4 g__law_asked (aCons (eVar 9) (aCons (eVar 3) (aCons (eC .none) (aCons (eC .none) (aNil)))))))) (eBin repD (eLst (aCons (eC (.str "room")) (aNil))) (eC (.int 8)))) (eBin isntD (eFn 1 g_is_room (aCons (eVar 3) (aNil))) (eC (.bool false))))
  (sRet (eC (.bool false)))
  (sNext)))
  (sSeq (sSet 2 (eLst (aCons (eC .none) (aCons (eC (.int 5)) (aCons (eTup (aNil)) (aCons (eTup (aCons (eTup (aCons (eC (.int 0)) (aCons (eC (.int 0)) (aCons (eC (.int 0)) (aCons (eC (.int 1)) (aNil)))))) (aNil))) (aCons (eLst (aCons (eTup (aCons (eC (.int 0)) (aCons (eC (.int 0)) (aCons (eC (.int 1)) (aCons (eC (.int 1)) (aNil)))))) (aNil))) (aCons (eTup (aCons (eTup (aCons (eC (.int 0)) (aCons (eC (.int 0)) (aCons (eC (.int 9)) (aCons (eC (.int 1)) (aNil)))))) (aNil))) (aCons (eTup (aCons (eTup (aCons (eBin subD (eC (.int 0)) (eC (.int 9))) (aCons (eC (.int 0)) (aCons (eC (.int 1)) (aCons (eC (.int 1)) (aNil)))))) (aNil))) (aCons (eBin repT (eTup (aCons (eTup (aCons (eC (.int 0)) (aCons (eC (.int 0)) (aCons (eC (.int 1)) (aCons (eC (.int 1)) (aNil)))))) (aNil))) (eC (.int 7))) (aCons (eTup (aCons (eTup (aCons (eC (.int 0)) (aCons (eC (.int 0)) (aCons (eC (.int 1)) (aCons (eC (.bool true)) (aNil)))))) (aNil))) (aNil))))))))))))
  (sSeq (sFor (iterS (eVar 2)) (gNm 3)
  (sIf (eOr (eBin neD (eComp (iterA range1D (aCons (eC (.int 8)) (aNil))) (gNm 9) (eC (.bool true)) [9] (pEmit (eFn 4 g__law_asked (aCons (eVar 9) (aCons (eVar 5) (aCons (eVar 3) (aCons (eC .none) (aNil)))))))) (eBin repD (eLst (aCons (eC (.str "body")) (aNil))) (eC (.int 8)))) (eBin isntD (eFn 1 g_is_body (aCons (eVar 3) (aNil))) (eC (.bool false))))
  (sRet (eC (.bool false)))
  (sNext)))
  (sSeq (sFor (iterS (eLst (aCons (eC .none) (aCons (eC (.int 5)) (aCons (eTup (aCons (eC (.int 0)) (aCons (eC (.int 0)) (aNil)))) (aCons (eTup (aCons (eC (.int 0)) (aCons (eC (.int 0)) (aCons (eC (.int 4)) (aNil))))) (aCons (eLst (aCons (eC (.int 0)) (aCons (eC (.int 0)) (aCons (eC (.int 0)) (aNil))))) (aCons (eTup (aCons (eC (.bool true)) (aCons (eC (.int 0)) (aCons (eC (.int 0)) (aNil))))) (aCons (eTup (aCons (eC (.int 201)) (aCons (eC (.int 0)) (aCons (eC (.int 0)) (aNil))))) (aCons (eTup (aCons (eC (.int 0)) (aCons (eBin subD (eC (.int 0)) (eC (.int 201))) (aCons (eC (.int 0)) (aNil))))) (aCons (eTup (aCons (eC (.int 0)) (aCons (eC (.int 0)) (aCons (eC .none) (aNil))))) (aNil)))))))))))) (gNm 3)
  (sIf (eOr (eBin neD (eComp (iterA range1D (aCons (eC (.int 8)) (aNil))) (gNm 9) (eC (.bool true)) [9] (pEmit (eFn 4 g__law_asked (aCons (eVar 9) (aCons (eVar 5) (aCons (eVar 6) (aCons (eVar 3) (aNil)))))))) (eBin repD (eLst (aCons (eC (.str "standing")) (aNil))) (eC (.int 8)))) (eBin isntD (eFn 1 g_is_standing (aCons (eVar 3) (aNil))) (eC (.bool false))))
  (sRet (eC (.bool false)))
  (sNext)))
  (sSeq (sFor (iterS (eLst (aCons (eTup (aCons (eC (.int 1)) (aCons (eC (.int 1)) (aCons (eC (.int 0)) (aNil))))) (aCons (eTup (aCons (eC (.int 2)) (aCons (eC (.int 1)) (aCons (eC (.int 0)) (aNil))))) (aCons (eTup (aCons (eC (.int 5)) (aCons (eC (.int 0)) (aCons (eC (.int 0)) (aNil))))) (aCons (eTup (aCons (eC (.int 0)) (aCons (eBin subD (eC (.int 0)) (eC (.int 1))) (aCons (eC (.int 0)) (aNil))))) (aCons (eTup (aCons (eC (.int 0)) (aCons (eC (.int 0)) (aCons (eC (.int 1)) (aNil))))) (aCons (eTup (aCons (eC (.int 200)) (aCons (eC (.int 0)) (aCons (eC (.int 0)) (aNil))))) (aCons (eTup (aCons (eC (.int 4)) (aCons (eC (.int 4)) (aCons (eC (.int 0)) (aNil))))) (aNil)))))))))) (gNm 3)
  (sIf (eBin neD (eComp (iterA range1D (aCons (eC (.int 7)) (aNil))) (gNm 9) (eC (.bool true)) [9] (pEmit (eFn 4 g__law_asked (aCons (eVar 9) (aCons (eVar 5) (aCons (eVar 6) (aCons (eVar 3) (aNil)))))))) (eBin repD (eLst (aCons (eTup (aCons (eC (.str "not free")) (aCons (eVar 3) (aNil)))) (aNil))) (eC (.int 7))))
  (sRet (eC (.bool false)))
  (sNext)))
  (sSeq (sSet 4 (eTup (aCons (eFnT 1 1 g__law_draw (aCons (eC (.int 5)) (aNil))) (aCons (eFnT 1 1 g__law_draw (aCons (eC (.int 5)) (aNil))) (aCons (eC (.int 0)) (aNil))))))
  (sSeq (sFor (iterS (eLst (aCons (eTup (aCons (eC (.int 1)) (aCons (eC (.int 1)) (aNil)))) (aCons (eTup (aCons (eC .none) (aCons (eC (.int 0)) (aNil)))) (aCons (eTup (aCons (eC (.int 0)) (aCons (eC (.bool true)) (aNil)))) (aCons (eTup (aCons (eC (.int 201)) (aCons (eC (.int 0)) (aNil)))) (aCons (eTup (aCons (eC (.str "1")) (aCons (eC (.int 0)) (aNil)))) (aCons (eTup (aCons (eC (.int 0)) (aCons (eBin subD (eC (.int 0)) (eC (.int 201))) (aNil)))) (aNil))))))))) (gTp 2 (gsCons (gNm 7) (gsCons (gNm 8) (gsNil))))
  (sIf (eOr (eBin neD (eFn 4 g__law_slide (aCons (eVar 4) (aCons (eVar 7) (aCons (eVar 8) (aCons (eC (.bool false)) (aNil)))))) (eC (.str "number"))) (eBin neD (eFn 4 g__law_slide (aCons (eVar 4) (aCons (eVar 7) (aCons (eVar 8) (aCons (eC (.bool true)) (aNil)))))) (eC (.str "number"))))
  (sRet (eC (.bool false)))
  (sNext)))
  (sSeq (sIf (eBin neD (eComp (iterS (eLst (aCons (eTup (aCons (eC (.int 0)) (aCons (eC (.int 0)) (aNil)))) (aCons (eTup (aCons (eC (.int 2)) (aCons (eC (.int 0)) (aNil)))) (aCons (eTup (aCons (eC (.int 0)) (aCons (eBin subD (eC (.int 0)) (eC (.int 2))) (aNil)))) (aCons (eTup (aCons (eC (.bool true)) (aCons (eC (.int 0)) (aNil)))) (aNil))))))) (gTp 2 (gsCons (gNm 7) (gsCons (gNm 8) (gsNil)))) (eC (.bool true)) [7, 8] (pEmit (eFn 4 g__law_slide (aCons (eVar 4) (aCons (eVar 7) (aCons (eVar 8) (aCons (eC (.bool true)) (aNil)))))))) (eBin repD (eLst (aCons (eC (.str "number")) (aNil))) (eC (.int 4))))
  (sRet (eC (.bool false)))
  (sNext))
  (sRet (eAnd (eBin eqD (eFn 4 g__law_slide (aCons (eVar 4) (aCons (eC (.int 0)) (aCons (eC (.int 0)) (aCons (eC (.bool false)) (aNil)))))) (eC (.str "told"))) (eBin eqD (eFn 4 g__law_asked (aCons (eC (.int 7)) (aCons (eVar 5) (aCons (eVar 6) (aCons (eTup (aCons (eC (.int 200)) (aCons (eBin subD (eC (.int 0)) (eC (.int 200))) (aCons (eC (.int 3)) (aNil))))) (aNil)))))) (eC (.str "told")))))))))))))))
end Fx
-- shared
namespace Fx
open PySem PySem.Spec L2
/-! rectangles, rooms, bodies, standings -/
structure Rc where
  a : Int
  b : Int
  c : Int
  d : Int
deriving DecidableEq
structure Rm where
  w : Int
  h : Int
  bl : List Rc
structure Sd where
  x : Int
  y : Int
  t : Int
deriving DecidableEq
abbrev rcD (r : Rc) : D := .tuple [.int r.a, .int r.b, .int r.c, .int r.d]
abbrev rcsD (b : List Rc) : D := .tuple (b.map rcD)
abbrev rmD (R : Rm) : D := .tuple [.int R.w, .int R.h, rcsD R.bl]
abbrev sdD (s : Sd) : D := .tuple [.int s.x, .int s.y, .int s.t]
def ov (r s : Rc) : Bool := decide (r.a < s.c) && (decide (s.a < r.c) && (decide (r.b < s.d) && decide (s.b < r.d)))
def out (R : Rm) (r : Rc) : Bool := decide (r.a < 0) || (decide (r.b < 0) || (decide (r.c > R.w) || decide (r.d > R.h)))
def fit (R : Rm) (r : Rc) : Bool := !out R r && !R.bl.any (ov r)
def quart (r : Rc) : Rc := ⟨-r.d, r.a, -r.b, r.c⟩
def turnB (b : List Rc) (n : Int) : List Rc := (rng 0 n).foldl (fun b _ => b.map quart) b
def shift (x y : Int) (r : Rc) : Rc := ⟨r.a + x, r.b + y, r.c + x, r.d + y⟩
def plc (b : List Rc) (s : Sd) : List Rc := (turnB b s.t).map (shift s.x s.y)
def std (R : Rm) (b : List Rc) (s : Sd) : Bool := (plc b s).all (fit R)
def okR (R : Rm) : Prop := 1 ≤ R.w ∧ R.w ≤ 60 ∧ 1 ≤ R.h ∧ R.h ≤ 60 ∧ R.bl.length ≤ 16 ∧ ∀ r ∈ R.bl, 0 ≤ r.a ∧ r.a < r.c ∧ 0 ≤ r.b ∧ r.b < r.d ∧ r.c ≤ R.w ∧ r.d ≤ R.h
def okB (b : List Rc) : Prop := 1 ≤ b.length ∧ b.length ≤ 6 ∧ ∀ r ∈ b, -8 ≤ r.a ∧ r.a < r.c ∧ r.c ≤ 8 ∧ -8 ≤ r.b ∧ r.b < r.d ∧ r.d ≤ 8
def okS (s : Sd) : Prop := -200 ≤ s.x ∧ s.x ≤ 200 ∧ -200 ≤ s.y ∧ s.y ≤ 200 ∧ 0 ≤ s.t ∧ s.t ≤ 3
theorem overlap_ev (r s : Rc) : g_overlap [rcD r, rcD s] = some (.bool (ov r s)) :=
  fnV_ev (sRet_ev (eAnd_ev rfl fun _ => eAnd_ev rfl fun _ => eAnd_ev rfl fun _ => rfl))
theorem fits_ev (R : Rm) (r : Rc) (hl : R.bl.length ≤ 100000) : g_fits [rmD R, rcD r] = some (.bool (fit R r)) := by
  refine fnV_ev (rho := [.val (rmD R), .val (rcD r), .val (.int R.w), .val (.int R.h), .val (rcsD R.bl), .no]) ?_
  refine sSeq_ev (s1 := ⟨[.val (rmD R), .val (rcD r), .val (.int R.w), .val (.int R.h), .val (rcsD R.bl), .no], none⟩) rfl ?_
  have hc : ∀ c, c = (eOr (eBin ltD (eBin ixD (eVar 1) (eC (.int 0))) (eC (.int 0))) (eOr (eBin ltD (eBin ixD (eVar 1) (eC (.int 1))) (eC (.int 0))) (eOr (eBin gtD (eBin ixD (eVar 1) (eC (.int 2))) (eVar 2)) (eBin gtD (eBin ixD (eVar 1) (eC (.int 3))) (eVar 3))))) → c ⟨[.val (rmD R), .val (rcD r), .val (.int R.w), .val (.int R.h), .val (rcsD R.bl), .no], none⟩ = some (.bool (out R r), ⟨[.val (rmD R), .val (rcD r), .val (.int R.w), .val (.int R.h), .val (rcsD R.bl), .no], none⟩) := by
    rintro c rfl
    exact eOr_ev rfl fun _ => eOr_ev rfl fun _ => eOr_ev rfl fun _ => rfl
  unfold fit
  cases ho : out R r with
  | true => exact sSeq_ret (sIf_t (by rw [hc _ rfl, ho]) rfl) (fun z => nomatch z)
  | false =>
    refine sSeq_ev (sIf_f (by rw [hc _ rfl, ho]) rfl) (sRet_ev (not_ev (eCall_ev (aOne_ev (map_ev R.bl rcD (fun s => .bool (ov r s)) rfl rfl rfl (fun s _ => ⟨_, rfl, ?_, rfl⟩) hl)) (anyD_map _ _))))
    exact eFn_ev rfl rfl (overlap_ev r s)
theorem quarter_ev (r : Rc) : g_quarter [rcD r] = some (rcD (quart r)) := rfl
theorem turned_by_ev (b : List Rc) (n : Int) (hn : 0 ≤ n ∧ n ≤ 1000000) (hl : b.length ≤ 100000) : g_turned_by [rcsD b, .int n] = some (rcsD (turnB b n)) ∧ (turnB b n).length = b.length := by
  have main : ∃ rho, B_turned_by (st0 4 [rcsD b, .int n]) = some (.ret (rcsD (turnB b n)), ⟨rho, none⟩) ∧ (turnB b n).length = b.length := by
    obtain ⟨s', h1, h2, c, rfl⟩ : ∃ s', sFor (iterA range1D (aCons (eVar 1) (aNil))) (gNm 2) (sSet 0 (eCall tupD (aCons (eComp (iterS (eVar 0)) (gNm 3) (eC (.bool true)) [3] (pEmit (eFn 1 g_quarter (aCons (eVar 3) (aNil))))) (aNil)))) (st0 4 [rcsD b, .int n]) = some (.next, s') ∧ (turnB b n).length = b.length ∧ ∃ c, s' = ⟨[.val (rcsD (turnB b n)), .val (.int n), c, .no], none⟩ := by
      refine for_inv (rng 0 n) PyData.int (fun (q : List Rc) s => q.length = b.length ∧ ∃ c, s = ⟨[.val (rcsD q), .val (.int n), c, .no], none⟩) (fun q _ => q.map quart) (range1_ev rfl (by omega)) ⟨rfl, .no, rfl⟩ ?_
      rintro q s x _ ⟨hq, c, rfl⟩
      refine ⟨_, _, rfl, .inl (sSet_ev (eCall_ev (aOne_ev (map_ev q rcD (fun r => rcD (quart r)) rfl rfl rfl (fun r _ => ⟨_, rfl, eFn_ev rfl rfl (quarter_ev r), rfl⟩) (by omega))) rfl)), ?_⟩
      refine ⟨by rw [List.length_map]; exact hq, .val (.int x), ?_⟩
      unfold rcsD
      rw [List.map_map]
      rfl
    exact ⟨_, sSeq_ev h1 rfl, h2⟩
  obtain ⟨rho, h1, h2⟩ := main
  exact ⟨fnV_ev h1, h2⟩
theorem placed_ev (b : List Rc) (s : Sd) (hs : 0 ≤ s.t ∧ s.t ≤ 1000000) (hl : b.length ≤ 100000) : g_placed [rcsD b, sdD s] = some (.list ((plc b s).map rcD)) ∧ (plc b s).length = b.length := by
  obtain ⟨t1, t2⟩ := turned_by_ev b s.t hs hl
  refine ⟨?_, by unfold plc; rw [List.length_map]; exact t2⟩
  refine fnV_ev (rho := [.val (rcsD b), .val (sdD s), .val (.int s.x), .val (.int s.y), .val (.int s.t), .no]) (sSeq_ev rfl ?_)
  have e : (plc b s).map rcD = (turnB b s.t).map fun r => rcD (shift s.x s.y r) := by unfold plc; rw [List.map_map]; rfl
  rw [e]
  refine sRet_ev (map_ev (turnB b s.t) rcD (fun r => rcD (shift s.x s.y r)) ?_ rfl rfl (fun r _ => ⟨_, rfl, rfl, rfl⟩) (by omega))
  exact iterS_ev (eFn_ev rfl rfl t1) rfl
theorem stands_ev (R : Rm) (b : List Rc) (s : Sd) (hR : R.bl.length ≤ 100000) (hs : 0 ≤ s.t ∧ s.t ≤ 1000000) (hl : b.length ≤ 100000) : g_stands [rmD R, rcsD b, sdD s] = some (.bool (std R b s)) := by
  obtain ⟨t1, t2⟩ := placed_ev b s hs hl
  refine fnV_ev (rho := [.val (rmD R), .val (rcsD b), .val (sdD s), .no]) (sRet_ev (eCall_ev (aOne_ev (map_ev (plc b s) rcD (fun r => .bool (fit R r)) ?_ rfl rfl (fun r _ => ⟨_, rfl, eFn_ev rfl rfl (fits_ev R r hR), rfl⟩) (by omega))) (allD_map _ _)))
  exact iterS_ev (eFn_ev rfl rfl t1) rfl
theorem is_whole_ev (n lo hi : Int) : g_is_whole [.int n, .int lo, .int hi] = some (.bool (decide (lo ≤ n) && decide (n ≤ hi))) := by
  refine fnV_ev (rho := [.val (.int n), .val (.int lo), .val (.int hi)]) (sRet_ev ?_)
  refine eAnd_ev (p := true) (q := decide (lo ≤ n) && decide (n ≤ hi)) rfl fun _ => eAnd_ev (p := true) (q := decide (lo ≤ n) && decide (n ≤ hi)) rfl fun _ => ?_
  show (match PyData.bool (decide (lo ≤ n)) with | .bool true => _ | .bool false => _ | _ => _) = _
  cases h : decide (lo ≤ n) <;> rfl
theorem is_rect_ev (r : Rc) (lo hi : Int) (h : lo ≤ r.a ∧ r.a < r.c ∧ r.c ≤ hi ∧ lo ≤ r.b ∧ r.b < r.d ∧ r.d ≤ hi) : g_is_rect [rcD r, .int lo, .int hi] = some (.bool true) := by
  refine fnV_ev (rho := [.val (rcD r), .val (.int lo), .val (.int hi), .no]) (sSeq_ev (s1 := ⟨[.val (rcD r), .val (.int lo), .val (.int hi), .no], none⟩) (sIf_f ?_ rfl) (sRet_ev ?_))
  · refine eOr_ev (p := false) (q := false) rfl fun _ => eOr_ev (p := false) (q := false) rfl fun _ => not_ev (p := true) (eCall_ev (aOne_ev (map_ev [r.a, r.b, r.c, r.d] PyData.int (fun n => .bool (decide (lo ≤ n) && decide (n ≤ hi))) rfl rfl rfl (fun n _ => ⟨_, rfl, eFn_ev rfl rfl (is_whole_ev n lo hi), rfl⟩) (by simp))) ?_)
    rw [allD_map]
    simp
    omega
  · refine eAnd_ev (p := true) (q := true) ?_ fun _ => ?_
    · refine eBin_ev rfl rfl ?_
      show some (PyData.bool (decide (r.a < r.c))) = _
      rw [decide_eq_true h.2.1]
    · refine eBin_ev rfl rfl ?_
      show some (PyData.bool (decide (r.b < r.d))) = _
      rw [decide_eq_true h.2.2.2.2.1]
theorem is_room_ev (R : Rm) (h : okR R) : g_is_room [rmD R] = some (.bool true) := by
  obtain ⟨h1, h2, h3, h4, h5, h6⟩ := h
  refine fnV_ev (rho := [.val (rmD R), .val (.int R.w), .val (.int R.h), .val (rcsD R.bl), .no]) (sSeq_ev (s1 := ⟨[.val (rmD R), .no, .no, .no, .no], none⟩) (sIf_f ?_ rfl) (sSeq_ev (s1 := ⟨[.val (rmD R), .val (.int R.w), .val (.int R.h), .val (rcsD R.bl), .no], none⟩) rfl (sSeq_ev (s1 := ⟨[.val (rmD R), .val (.int R.w), .val (.int R.h), .val (rcsD R.bl), .no], none⟩) (sIf_f ?_ rfl) (sRet_ev ?_))))
  · refine eOr_ev (p := false) (q := false) rfl fun _ => eOr_ev (p := false) (q := false) rfl fun _ => not_ev (p := true) (eCall_ev (aOne_ev (map_ev [R.w, R.h] PyData.int (fun n => .bool (decide (1 ≤ n) && decide (n ≤ 60))) rfl rfl rfl (fun n _ => ⟨_, rfl, eFn_ev rfl rfl (is_whole_ev n 1 60), rfl⟩) (by simp))) ?_)
    rw [allD_map]
    simp
    omega
  · refine eOr_ev (p := false) (q := false) rfl fun _ => eBin_ev rfl rfl ?_
    show some (PyData.bool (decide (((R.bl.map rcD).length : Int) > 16))) = _
    rw [decide_eq_false (by rw [List.length_map]; omega)]
  · refine eCall_ev (aOne_ev (map_ev R.bl rcD (fun r => .bool (decide (r.c ≤ R.w) && decide (r.d ≤ R.h))) rfl rfl rfl (fun r hr => ⟨_, rfl, ?_, rfl⟩) (by omega))) ?_
    · refine eAnd_ev (p := true) (q := decide (r.c ≤ R.w) && decide (r.d ≤ R.h)) (eFn_ev rfl rfl (is_rect_ev r 0 60 ?_)) fun _ => eAnd_ev rfl fun _ => rfl
      have := h6 r hr
      omega
    · rw [allD_map]
      congr 2
      rw [List.all_eq_true]
      intro r hr
      have := h6 r hr
      simp
      omega
theorem is_body_ev (b : List Rc) (h : okB b) : g_is_body [rcsD b] = some (.bool true) := by
  obtain ⟨h1, h2, h3⟩ := h
  refine fnV_ev (rho := [.val (rcsD b), .no]) (sSeq_ev (s1 := ⟨[.val (rcsD b), .no], none⟩) (sIf_f ?_ rfl) (sRet_ev ?_))
  · refine eOr_ev (p := false) (q := false) rfl fun _ => not_ev (p := true) ?_
    show (match PyData.bool (decide ((1 : Int) ≤ ((b.map rcD).length : Int))) with | .bool true => _ | .bool false => _ | _ => _) = _
    rw [decide_eq_true (by rw [List.length_map]; omega)]
    show some (PyData.bool (decide (((b.map rcD).length : Int) ≤ 6)), _) = _
    rw [decide_eq_true (by rw [List.length_map]; omega)]
  · refine eCall_ev (aOne_ev (map_ev b rcD (fun r => .bool true) rfl rfl rfl (fun r hr => ⟨_, rfl, eFn_ev rfl rfl (is_rect_ev r (-8) 8 ?_), rfl⟩) (by omega))) ?_
    · have := h3 r hr
      omega
    · rw [allD_map]
      simp
theorem is_standing_ev (s : Sd) (h : okS s) : g_is_standing [sdD s] = some (.bool true) := by
  obtain ⟨h1, h2, h3, h4, h5, h6⟩ := h
  refine fnV_ev (rho := [.val (sdD s), .no]) (sSeq_ev (s1 := ⟨[.val (sdD s), .no], none⟩) (sIf_f ?_ rfl) (sRet_ev ?_))
  · refine eOr_ev (p := false) (q := false) rfl fun _ => eOr_ev (p := false) (q := false) rfl fun _ => not_ev (p := true) (eFn_ev rfl rfl ?_)
    rw [is_whole_ev]
    simp
    omega
  · refine eCall_ev (aOne_ev (map_ev [s.x, s.y] PyData.int (fun n => .bool (decide (-200 ≤ n) && decide (n ≤ 200))) rfl rfl rfl (fun n _ => ⟨_, rfl, eFn_ev rfl rfl (is_whole_ev n (-200) 200), rfl⟩) (by simp))) ?_
    rw [allD_map]
    simp
    omega
def mn (x : Int) : Int := if 0 < x then 0 else x
def mx (x : Int) : Int := if 0 > x then 0 else x
def ext (x y : Int) (r : Rc) : Rc := ⟨r.a + mn x, r.b + mn y, r.c + mx x, r.d + mx y⟩
def sld (R : Rm) (b : List Rc) (s : Sd) (x y : Int) : Bool := (plc b s).all fun r => fit R (ext x y r)
theorem slides_ev (R : Rm) (b : List Rc) (s : Sd) (x y : Int) (hR : okR R) (hb : okB b) (hs : okS s) : g_slides [rmD R, rcsD b, sdD s, .int x, .int y] = some (.bool (sld R b s x y)) := by
  obtain ⟨t1, t2⟩ := placed_ev b s ⟨hs.2.2.2.2.1, by have := hs.2.2.2.2.2; omega⟩ (by have := hb.2.1; omega)
  have hl : R.bl.length ≤ 100000 := by have := hR.2.2.2.2.1; omega
  have e : PyData.bool (sld R b s x y) = if (plc b s).any (fun r => !fit R (ext x y r)) then .bool false else .bool true := by
    unfold sld
    rw [List.any_eq_not_all_not]
    simp only [Bool.not_not]
    cases (plc b s).all fun r => fit R (ext x y r) <;> rfl
  rw [e]
  have key : ∃ s2, B_slides (st0 10 [rmD R, rcsD b, sdD s, .int x, .int y]) = some (.ret (if (plc b s).any (fun r => !fit R (ext x y r)) then .bool false else .bool true), s2) ∧ ∃ c5 c6 c7 c8 c9, s2 = ⟨[.val (rmD R), .val (rcsD b), .val (sdD s), .val (.int x), .val (.int y), c5, c6, c7, c8, c9], none⟩ := by
    refine seq_until (for_until (plc b s) rcD (fun s' => ∃ c5 c6 c7 c8 c9, s' = ⟨[.val (rmD R), .val (rcsD b), .val (sdD s), .val (.int x), .val (.int y), c5, c6, c7, c8, c9], none⟩) (fun r => !fit R (ext x y r)) ⟨.bool false, rfl⟩ (iterS_ev (eFn_ev rfl rfl t1) rfl) ⟨_, _, _, _, _, rfl⟩ ?_) ?_
    · rintro s' r hr ⟨c5, c6, c7, c8, c9, rfl⟩
      refine ⟨_, ⟨[.val (rmD R), .val (rcsD b), .val (sdD s), .val (.int x), .val (.int y), .val (rcD r), .val (.int r.a), .val (.int r.b), .val (.int r.c), .val (.int r.d)], none⟩, rfl, ?_, ?_, _, _, _, _, _, rfl⟩
      · intro hf
        exact sSeq_ev rfl (sIf_t (by rw [← hf]; exact not_ev (eFn_ev rfl rfl (fits_ev R (ext x y r) hl))) rfl)
      · intro hf
        exact sSeq_ev rfl (sIf_f (by rw [← hf]; exact not_ev (eFn_ev rfl rfl (fits_ev R (ext x y r) hl))) rfl)
    · rintro _ s' ⟨c5, c6, c7, c8, c9, rfl⟩
      exact ⟨_, rfl, _, _, _, _, _, rfl⟩
  obtain ⟨s2, h1, c5, c6, c7, c8, c9, rfl⟩ := key
  exact fnV_ex ⟨_, h1, rfl⟩
def abI (i : Int) : Int := if i < 0 then -i else i
def absR (r : Rc) : List Int := [abI r.a, abI r.b, abI r.c, abI r.d]
def frm (b : List Rc) : Int := maxI (b.flatMap absR)
theorem frame_of_ev (b : List Rc) (h : okB b) : g_frame_of [rcsD b] = some (.int (frm b)) := by
  have hlen : (b.flatMap fun r => (absR r).map PyData.int).length = 4 * b.length := by
    clear h
    induction b with
    | nil => rfl
    | cons r b ih => rw [List.flatMap_cons, List.length_append, ih, List.length_cons]; simp [absR]; omega
  refine fnV_ev (rho := [.val (rcsD b), .no, .no]) (sRet_ev (eCall_ev (aOne_ev (compg_ev b rcD (fun _ => true) (fun r => (absR r).map PyData.int) rfl rfl rfl (fun r hr => ⟨_, rfl, rfl, fun _ acc ha => ?_, rfl⟩) ?_)) ?_))
  · have q := pfor_ev (fi := iterS (eVar 1)) (g := gNm 2) (ft := eC (.bool true)) (f := eCall absD (aCons (eVar 2) aNil)) (vs := [2]) (s := ⟨[.val (rcsD b), .val (rcD r), .no], none⟩) (acc := acc) [r.a, r.b, r.c, r.d] PyData.int (fun _ => true) (fun n => .int (abI n)) rfl rfl (fun n _ => ⟨_, rfl, rfl, fun _ => rfl, rfl⟩) (by simp [absR] at ha; simp; omega)
    exact q
  · rw [List.filter_eq_self.mpr fun _ _ => rfl, hlen]
    have := h.2.1
    omega
  · rw [List.filter_eq_self.mpr fun _ _ => rfl]
    have e : (b.flatMap fun r => (absR r).map PyData.int) = (b.flatMap absR).map PyData.int := by rw [List.map_flatMap]
    rw [e]
    show (intsD ((b.flatMap absR).map PyData.int)).bind _ = _
    have e2 := intsD_map (fun n : Int => n) (b.flatMap absR)
    simp only [List.map_id'] at e2
    rw [e2, Option.bind_some, if_neg]
    · rfl
    · cases b with
      | nil => have := h.1; simp at this
      | cons r b => simp [absR]
def frR (x y f : Int) : Rc := ⟨x - f, y - f, x + f, y + f⟩
theorem turns_at_ev (R : Rm) (b : List Rc) (x y : Int) (hR : okR R) (hb : okB b) : g_turns_at [rmD R, rcsD b, .int x, .int y] = some (.bool (fit R (frR x y (frm b)))) :=
  fnV_ev (rho := [.val (rmD R), .val (rcsD b), .val (.int x), .val (.int y), .val (.int (frm b))]) (sSeq_ev (sSet_ev (eFn_ev rfl rfl (frame_of_ev b hb))) (sRet_ev (eFn_ev rfl rfl (fits_ev R (frR x y (frm b)) (by have := hR.2.2.2.2.1; omega)))))
def dirs : List (Int × Int) := [(1, 0), (-1, 0), (0, 1), (0, -1)]
def lineS (R : Rm) (b : List Rc) (x y : Int) : List Sd := ((rng 0 4).filter fun t => std R b ⟨x, y, t⟩).map fun t => ⟨x, y, t⟩
def allS (R : Rm) (b : List Rc) : List Sd := (rng (-frm b) (R.w + frm b + 1)).flatMap fun x => (rng (-frm b) (R.h + frm b + 1)).flatMap fun y => lineS R b x y
theorem lineS_len (R : Rm) (b : List Rc) (x y : Int) : (lineS R b x y).length ≤ 4 := by
  unfold lineS
  rw [List.length_map]
  exact Nat.le_trans (List.length_filter_le _ _) (by rw [rng_len]; decide)
theorem maxI_le {ns : List Int} {M : Int} (h0 : ns ≠ []) (h : ∀ n ∈ ns, n ≤ M) : maxI ns ≤ M := by
  cases ns with
  | nil => exact absurd rfl h0
  | cons x r =>
    show r.foldl _ x ≤ M
    have hx := h x List.mem_cons_self
    have hr : ∀ n ∈ r, n ≤ M := fun n hn => h n (List.mem_cons_of_mem _ hn)
    clear h h0
    induction r generalizing x with
    | nil => exact hx
    | cons y r ih =>
      rw [List.foldl_cons]
      refine ih _ ?_ fun n hn => hr n (List.mem_cons_of_mem _ hn)
      split
      · exact hr y List.mem_cons_self
      · exact hx
theorem maxI_ge {ns : List Int} {n : Int} (h : n ∈ ns) : n ≤ maxI ns := by
  cases ns with
  | nil => cases h
  | cons x r =>
    show n ≤ r.foldl (fun a b => if b > a then b else a) x
    have gen : ∀ (r : List Int) (x : Int), x ≤ r.foldl (fun a b => if b > a then b else a) x ∧ ∀ y ∈ r, y ≤ r.foldl (fun a b => if b > a then b else a) x := by
      intro r
      induction r with
      | nil => exact fun x => ⟨Int.le_refl x, fun y hy => nomatch hy⟩
      | cons z r ih =>
        intro x
        rw [List.foldl_cons]
        obtain ⟨h1, h2⟩ := ih (if z > x then z else x)
        refine ⟨?_, fun y hy => ?_⟩
        · refine Int.le_trans ?_ h1
          split <;> omega
        · rcases List.mem_cons.mp hy with rfl | hy
          · refine Int.le_trans ?_ h1
            split <;> omega
          · exact h2 y hy
    rcases List.mem_cons.mp h with rfl | h
    · exact (gen r n).1
    · exact (gen r x).2 n h
theorem maxI_mem {ns : List Int} (h0 : ns ≠ []) : maxI ns ∈ ns := by
  cases ns with
  | nil => exact absurd rfl h0
  | cons x r =>
    show r.foldl (fun a b => if b > a then b else a) x ∈ x :: r
    have gen : ∀ (r : List Int) (x : Int), r.foldl (fun a b => if b > a then b else a) x = x ∨ r.foldl (fun a b => if b > a then b else a) x ∈ r := by
      intro r
      induction r with
      | nil => exact fun x => .inl rfl
      | cons z r ih =>
        intro x
        rw [List.foldl_cons]
        rcases ih (if z > x then z else x) with e | e
        · rw [e]
          split
          · exact .inr List.mem_cons_self
          · exact .inl rfl
        · exact .inr (List.mem_cons_of_mem _ e)
    rcases gen r x with e | e
    · rw [e]; exact List.mem_cons_self
    · exact List.mem_cons_of_mem _ e
theorem frm_spec {b : List Rc} (h : okB b) : (∀ r ∈ b, abI r.a ≤ frm b ∧ abI r.b ≤ frm b ∧ abI r.c ≤ frm b ∧ abI r.d ≤ frm b) ∧ (∃ r ∈ b, frm b ∈ absR r) := by
  have h0 : b.flatMap absR ≠ [] := by
    cases b with
    | nil => have := h.1; simp at this
    | cons r b => simp [absR]
  refine ⟨fun r hr => ?_, ?_⟩
  · have q : ∀ n ∈ absR r, n ≤ frm b := fun n hn => maxI_ge (List.mem_flatMap.mpr ⟨r, hr, hn⟩)
    exact ⟨q _ (by simp [absR]), q _ (by simp [absR]), q _ (by simp [absR]), q _ (by simp [absR])⟩
  · obtain ⟨r, hr, hn⟩ := List.mem_flatMap.mp (maxI_mem h0)
    exact ⟨r, hr, hn⟩
theorem frm_bd {b : List Rc} (h : okB b) : 0 ≤ frm b ∧ frm b ≤ 8 := by
  obtain ⟨h1, r, hr, hm⟩ := frm_spec h
  have := h.2.2 r hr
  simp only [absR, List.mem_cons, List.not_mem_nil, or_false, abI] at hm
  rcases hm with e | e | e | e <;> rw [e] <;> split <;> omega
end Fx

namespace Fx
open PySem PySem.Spec L2
/-! the law's own draws -/
theorem eFnT_ev {i n : Nat} {g : Tw → List D → Option (D × Tw)} {fa : Fa} {s : S} {rho : List C} {xs : List D} {d : D} {tw tw' : Tw} (h0 : s.rho[i]? = some .tn) (h1 : fa s = some (xs, ⟨rho, some tw⟩)) (hn : xs.length = n) (h3 : g tw xs = some (d, tw')) : eFnT i n g fa s = some (d, ⟨rho, some tw'⟩) := by
  unfold eFnT
  rw [h0]
  dsimp only
  rw [h1, Option.bind_some]
  dsimp only
  rw [Option.bind_some, if_pos hn, h3]
  rfl
theorem fnT_ev {n : Nat} {F : Fs} {tw tw' : Tw} {ds : List D} {d : D} {rho : List C} (h : F (st0T n tw ds) = some (.ret d, ⟨rho, some tw'⟩)) : fnT n F tw ds = some (d, tw') := by unfold fnT; rw [h]; rfl
theorem fnT_ex {n : Nat} {F : Fs} {tw tw' : Tw} {ds : List D} {d : D} (h : ∃ s', F (st0T n tw ds) = some (.ret d, s') ∧ s'.tw = some tw') : fnT n F tw ds = some (d, tw') := by
  obtain ⟨⟨rho, t⟩, h1, h2⟩ := h
  cases h2
  exact fnT_ev h1
theorem sPar_ev {i j : Nat} {fa : Fa} {s s1 : S} {a b : D} (h : fa s = some ([a, b], s1)) : sPar i j fa s = some (.next, (s1.put i (.val a)).put j (.val b)) := by
  unfold sPar
  rw [h]
  rfl
theorem modD_ev {a b : Int} (h : 0 < b) : modD (.int a) (.int b) = some (.int (a % b)) := by
  show (if _ then some (PyData.int (a % b)) else none) = _
  rw [if_pos h]
theorem divD_ev {a b : Int} (h : 0 < b ∧ b < 1073741824) : divD (.int a) (.int b) = some (.int (a / b)) := by
  show (if _ then some (PyData.int (a / b)) else none) = _
  rw [if_pos h]
theorem powD_ev {a b : Int} (h : 0 ≤ b ∧ b ≤ 1000000 ∧ a.natAbs < 2 ^ 64) : powD (.int a) (.int b) = some (.int (a ^ b.toNat)) := by
  show (if _ then some (PyData.int (a ^ b.toNat)) else none) = _
  rw [if_pos h]
theorem draw_ev (row : List Int) (m c : Int) (hr : row ≠ []) (hc : 0 < c ∧ c < 1073741824) : ∃ n row', g__law_draw (row, m) [.int c] = some (.int n, (row', m + 1)) ∧ 0 ≤ n ∧ n < c ∧ row' ≠ [] := by
  have hl : (0 : Int) < (row.length : Int) := by
    cases row with
    | nil => exact absurd rfl hr
    | cons _ _ => simp
  have i0 := Int.emod_nonneg (m + 1) (Int.ne_of_gt hl)
  have i1 := Int.emod_lt_of_pos (m + 1) hl
  obtain ⟨k, hk⟩ : ∃ k : Nat, (m + 1) % (row.length : Int) = k := ⟨((m + 1) % (row.length : Int)).toNat, by omega⟩
  have hkl : k < row.length := by omega
  have hix : ixN row.length ((m + 1) % (row.length : Int)) = some k := by
    unfold ixN
    rw [if_pos i0, if_pos i1, hk]
    rfl
  have hat : atI row ((m + 1) % (row.length : Int)) = some row[k] := by
    unfold atI
    rw [hix, Option.bind_some, List.getElem?_eq_getElem hkl]
  generalize hcell : row[k] = cell at hat
  have e3 : (eBin modD (eTw1 0) (eRowLen 2)) ⟨[.tn, .val (.int c), .rw, .no, .no, .no], some (row, m + 1)⟩ = some (.int ((m + 1) % (row.length : Int)), ⟨[.tn, .val (.int c), .rw, .no, .no, .no], some (row, m + 1)⟩) := eBin_ev rfl rfl (modD_ev hl)
  have e4 : (eRowAt 2 (eVar 3)) ⟨[.tn, .val (.int c), .rw, .val (.int ((m + 1) % (row.length : Int))), .no, .no], some (row, m + 1)⟩ = some (.int cell, ⟨[.tn, .val (.int c), .rw, .val (.int ((m + 1) % (row.length : Int))), .no, .no], some (row, m + 1)⟩) := by
    show (atI row ((m + 1) % (row.length : Int))).map _ = _
    rw [hat]
    rfl
  by_cases hb : cell ≥ 1000000000000000000
  · refine ⟨cell % c, row.set k (cell / c), ?_, Int.emod_nonneg _ (by omega), Int.emod_lt_of_pos _ hc.1, fun z => hr (by have := congrArg List.length z; rw [List.length_set] at this; exact List.eq_nil_of_length_eq_zero (by simpa using this))⟩
    refine fnT_ev (rho := [.tn, .val (.int c), .rw, .val (.int ((m + 1) % (row.length : Int))), .val (.int cell), .no]) (sSeq_ev rfl (sSeq_ev rfl (sSeq_ev (sSet_ev e3) (sSeq_ev (sSet_ev e4) (sSeq_ret (sIf_t (eBin_ev rfl rfl ?_) (sSeq_ev (s1 := ⟨[.tn, .val (.int c), .rw, .val (.int ((m + 1) % (row.length : Int))), .val (.int cell), .no], some (row.set k (cell / c), m + 1)⟩) ?_ (sRet_ev (eBin_ev rfl rfl (modD_ev hc.1))))) (fun z => nomatch z))))))
    · show some (PyData.bool (decide (1000000000000000000 ≤ cell))) = _
      rw [decide_eq_true hb]
    · show (eBin divD (eVar 4) (eVar 1) _).bind _ = _
      rw [eBin_ev rfl rfl (divD_ev hc)]
      show (ixN row.length ((m + 1) % (row.length : Int))).map _ = _
      rw [hix]
      rfl
  · refine ⟨_, row, fnT_ev (sSeq_ev rfl (sSeq_ev rfl (sSeq_ev (sSet_ev e3) (sSeq_ev (sSet_ev e4) (sSeq_ev (sIf_f (eBin_ev rfl rfl ?_) rfl) (sSeq_ev (sSet_ev (eBin_ev (eBin_ev rfl (eBin_ev rfl rfl (mulD_ev (.inl (by omega)))) rfl) rfl (modD_ev (by omega)))) (sSeq_ev (sSet_ev (eBin_ev (eBin_ev rfl rfl (powD_ev ⟨by decide, by decide, ?_⟩)) rfl (modD_ev (by decide)))) (sRet_ev (eBin_ev (eBin_ev (eBin_ev (eBin_ev (eBin_ev (eBin_ev rfl rfl (divD_ev (by decide))) rfl (mulD_ev (.inr (by decide)))) rfl rfl) rfl (modD_ev (by decide))) rfl (divD_ev (by decide))) rfl (modD_ev hc.1)))))))))), ?_⟩
    · show some (PyData.bool (decide (1000000000000000000 ≤ cell))) = _
      rw [decide_eq_false (by omega)]
    · have a0 := Int.emod_nonneg (cell + 104729 * (m + 1)) (show (4294967291 : Int) ≠ 0 by decide)
      have a1 := Int.emod_lt_of_pos (cell + 104729 * (m + 1)) (show (0 : Int) < 4294967291 by decide)
      omega
    · exact ⟨Int.emod_nonneg _ (by omega), Int.emod_lt_of_pos _ hc.1, hr⟩
def okT (tw : Tw) : Prop := tw.1 ≠ []
theorem draw {tw : Tw} (h : okT tw) (c : Int) (hc : 0 < c ∧ c < 1073741824) : ∃ n tw', g__law_draw tw [.int c] = some (.int n, tw') ∧ 0 ≤ n ∧ n < c ∧ okT tw' := by
  obtain ⟨n, row', h1, h2, h3, h4⟩ := draw_ev tw.1 tw.2 c h hc
  exact ⟨n, _, h1, h2, h3, h4⟩
theorem sApp_ev {i : Nat} {f : Fe} {s s1 : S} {d : D} {ds0 ds : List D} (h0 : s.ownL i = some ds0) (h : f s = some (d, s1)) (h1 : s1.ownL i = some ds) (hl : ds.length < 100000) : sApp i f s = some (.next, s1.put i (.own (.list (ds ++ [d])))) := by
  unfold sApp
  simp only [h0, h, h1, Option.bind_some, if_pos hl]
theorem sFrz_ev {i : Nat} {F : Fs} {s s1 : S} {r : Option (Fl × S)} (h : s.frz i = some s1) (h2 : F s1 = r) : sFrz i F s = r := by
  unfold sFrz
  rw [h]
  exact h2
def smallR (R : Rm) : Prop := 2 ≤ R.w ∧ R.w ≤ 6 ∧ 2 ≤ R.h ∧ R.h ≤ 6 ∧ R.bl.length ≤ 4 ∧ ∀ r ∈ R.bl, 0 ≤ r.a ∧ r.a < r.c ∧ r.c ≤ r.a + 3 ∧ r.c ≤ R.w ∧ 0 ≤ r.b ∧ r.b < r.d ∧ r.d ≤ r.b + 3 ∧ r.d ≤ R.h
theorem smallR.ok {R : Rm} (h : smallR R) : okR R := by
  obtain ⟨h1, h2, h3, h4, h5, h6⟩ := h
  refine ⟨by omega, by omega, by omega, by omega, by omega, fun r hr => ?_⟩
  have := h6 r hr
  omega
theorem min3 (n : Int) : (if n < 3 then n else 3) ≤ 3 ∧ (if n < 3 then n else 3) ≤ n ∧ (0 < n → 0 < (if n < 3 then n else (3 : Int))) := by
  split <;> omega
theorem clT_ev {α β : Type} {g : Fg} {f : Fe} {vs : List Nat} {rho : List C} (enc : α → D) (out : β → D) (Good : β → Prop) : ∀ {xs : List α} {acc : List D} {t : Tw}, okT t → acc.length + xs.length ≤ 100000 → (∀ x ∈ xs, ∀ t, okT t → ∃ rhox o t', g (enc x) ⟨rho, some t⟩ = some ⟨rhox, some t⟩ ∧ f ⟨rhox, some t⟩ = some (out o, ⟨rhox, some t'⟩) ∧ Good o ∧ okT t' ∧ (⟨rhox, some t'⟩ : S).wipe vs = ⟨rho, some t'⟩) →
    ∃ (os : List β) (t' : Tw), clLoop g (eC (.bool true)) vs (pEmit f) (xs.map enc) acc ⟨rho, some t⟩ = some (acc ++ os.map out, ⟨rho, some t'⟩) ∧ os.length = xs.length ∧ (∀ o ∈ os, Good o) ∧ okT t'
  | [], acc, t, ot, _, _ => ⟨[], t, by simp [clLoop], rfl, fun o ho => (nomatch ho), ot⟩
  | x :: xs, acc, t, ot, hl, h => by
    rw [List.length_cons] at hl
    obtain ⟨rhox, o, t', h1, h2, h3, h4, h5⟩ := h x List.mem_cons_self t ot
    obtain ⟨os, t2, k1, k2, k3, k4⟩ := clT_ev enc out Good (g := g) (f := f) (vs := vs) (rho := rho) (xs := xs) (acc := acc ++ [out o]) h4 (by rw [List.length_append, List.length_singleton]; omega) (fun y hy => h y (List.mem_cons_of_mem _ hy))
    refine ⟨o :: os, t2, ?_, by rw [List.length_cons, List.length_cons, k2], fun q hq => ?_, k4⟩
    · rw [List.map_cons]
      unfold clLoop
      rw [h1, Option.bind_some]
      show (pEmit f acc ⟨rhox, some t⟩).bind _ = _
      unfold pEmit
      rw [h2, Option.bind_some]
      dsimp only
      rw [if_pos (by omega), Option.bind_some]
      dsimp only
      rw [h5]
      unfold pEmit at k1
      rw [k1, List.map_cons, List.append_assoc]
      rfl
    · rcases List.mem_cons.mp hq with rfl | hq
      · exact h3
      · exact k3 q hq
def smallB (b : List Rc) : Prop := 1 ≤ b.length ∧ b.length ≤ 2 ∧ ∀ r ∈ b, -2 ≤ r.a ∧ r.a < r.c ∧ r.c ≤ 2 ∧ -2 ≤ r.b ∧ r.b < r.d ∧ r.d ≤ 2
theorem smallB.ok {b : List Rc} (h : smallB b) : okB b := by
  obtain ⟨h1, h2, h3⟩ := h
  refine ⟨h1, by omega, fun r hr => ?_⟩
  have := h3 r hr
  omega
end Fx

namespace Fx
open PySem PySem.Spec L2
/-! rows of ints as data -/
abbrev kD (k : List Int) : D := .tuple (k.map PyData.int)
theorem canLay_ints : ∀ k : List Int, PyData.canLayAll0 (k.map PyData.int) = true
  | [] => rfl
  | n :: k => by show (PyData.canLay0 (.int n) && PyData.canLayAll0 (k.map PyData.int)) = true; rw [canLay_ints k]; rfl
theorem canLay_kD (k : List Int) : PyData.canLay0 (kD k) = true := by
  show PyData.canLayAll0 (k.map PyData.int) = true
  exact canLay_ints k
theorem depth_kD (k : List Int) : PyData.depth (kD k) = 1 := by
  show PyData.depthAll (k.map PyData.int) + 1 = 1
  rw [PySem.W.depth_ints]
theorem shaped_kD (k : List Int) : SeqAt.shaped (kD k) = true := by
  unfold SeqAt.shaped
  rw [canLay_kD, depth_kD]
  rfl
theorem rows_lay : ∀ ks : List (List Int), PyData.canLayAll0 (ks.map kD) = true ∧ PyData.depthAll (ks.map kD) ≤ 1
  | [] => ⟨rfl, Nat.zero_le _⟩
  | k :: ks => by
    obtain ⟨h1, h2⟩ := rows_lay ks
    constructor
    · show (PyData.canLay0 (kD k) && PyData.canLayAll0 (ks.map kD)) = true
      rw [canLay_kD, h1]
      rfl
    · show max (PyData.depth (kD k)) (PyData.depthAll (ks.map kD)) ≤ 1
      rw [depth_kD]
      omega
theorem shaped_rows (ks : List (List Int)) : SeqAt.shaped (.list (ks.map kD)) = true := by
  obtain ⟨h1, h2⟩ := rows_lay ks
  unfold SeqAt.shaped
  rw [show PyData.canLay0 (.list (ks.map kD)) = PyData.canLayAll0 (ks.map kD) from rfl, h1, show PyData.depth (.list (ks.map kD)) = PyData.depthAll (ks.map kD) + 1 from rfl]
  have : PyData.depthAll (ks.map kD) + 1 ≤ 60 := by omega
  simp [this]
  omega
theorem eqv_ints : ∀ k l : List Int, PyData.eqvAll (k.map PyData.int) (l.map PyData.int) = decide (k = l)
  | [], [] => rfl
  | [], _ :: _ => rfl
  | _ :: _, [] => rfl
  | x :: k, y :: l => by
    show ((x == y) && PyData.eqvAll (k.map PyData.int) (l.map PyData.int)) = _
    rw [eqv_ints k l]
    by_cases h : x = y <;> by_cases h2 : k = l <;> simp [h, h2]
theorem eqv_kD (k l : List Int) : PyData.eqv (kD k) (kD l) = decide (k = l) := eqv_ints k l
theorem eqv_rows : ∀ ks ls : List (List Int), PyData.eqvAll (ks.map kD) (ls.map kD) = decide (ks = ls)
  | [], [] => rfl
  | [], _ :: _ => rfl
  | _ :: _, [] => rfl
  | x :: k, y :: l => by
    show (PyData.eqv (kD x) (kD y) && PyData.eqvAll (k.map kD) (l.map kD)) = _
    rw [eqv_rows k l, eqv_kD]
    by_cases h : x = y <;> by_cases h2 : k = l <;> simp [h, h2]
theorem any_eqv (ks : List (List Int)) (k : List Int) : (ks.map kD).any (fun z => PyData.eqv z (kD k)) = decide (k ∈ ks) := by
  induction ks with
  | nil => rfl
  | cons x ks ih =>
    rw [List.map_cons, List.any_cons, ih, eqv_kD]
    by_cases h : x = k
    · simp [h]
    · have h' : ¬ k = x := fun z => h z.symm
      simp [h, h']
theorem notInD_ev (ks : List (List Int)) (k : List Int) : notInD (kD k) (.list (ks.map kD)) = some (.bool (!decide (k ∈ ks))) := by
  unfold notInD
  show (if SeqAt.shaped (kD k) = true ∧ SeqAt.shaped (.list (ks.map kD)) = true then _ else _) = _
  rw [if_pos ⟨shaped_kD k, shaped_rows ks⟩, any_eqv]
/-! dicts whose keys are such rows -/
def entK (ks : List (List Int)) : List (D × D) := ks.map fun k => (kD k, .bool true)
theorem keyY_kD {k : List Int} (h : k ≠ []) : keyY (kD k) = some (.t (k.map Sum.inl)) := by
  have e : kD k = .tuple ((k.map Sum.inl).map keyD) := by unfold kD; rw [List.map_map]; rfl
  rw [e]
  exact keyY_t (by simpa using h)
theorem key_inj {k l : List Int} : (KY.t (k.map (Sum.inl : Int → Key)) = .t (l.map Sum.inl)) ↔ k = l := by
  constructor
  · intro h
    injection h with h
    exact (List.map_inj_right fun a b e => Sum.inl.inj e).mp h
  · rintro rfl; rfl
theorem okY_ent (ks : List (List Int)) (q : List Key) : okY (entK ks) (.t q) = true := by
  cases ks <;> rfl
theorem lookY_ent {k : List Int} : ∀ {ks : List (List Int)}, (∀ l ∈ ks, l ≠ []) → lookY (entK ks) (.t (k.map Sum.inl)) = if k ∈ ks then some (.bool true) else none
  | [], _ => rfl
  | l :: ks, h => by
    show (if keyY (kD l) = some (.t (k.map Sum.inl)) then some (PyData.bool true) else lookY (entK ks) (.t (k.map Sum.inl))) = _
    rw [keyY_kD (h l List.mem_cons_self), lookY_ent fun x hx => h x (List.mem_cons_of_mem _ hx)]
    by_cases e : l = k
    · subst e
      rw [if_pos rfl, if_pos List.mem_cons_self]
    · rw [if_neg (fun z => e (key_inj.mp (Option.some.inj z)))]
      by_cases m : k ∈ ks
      · rw [if_pos m, if_pos (List.mem_cons_of_mem _ m)]
      · rw [if_neg m, if_neg (fun z => (List.mem_cons.mp z).elim (fun z => e z.symm) m)]
theorem putY_ent {k : List Int} {ks : List (List Int)} (h : ∀ l ∈ ks, l ≠ []) (hk : k ∉ ks) : putY (entK ks) (.t (k.map Sum.inl)) (.bool true) = entK (ks ++ [k]) := by
  unfold putY
  rw [lookY_ent h, if_neg hk]
  unfold entK
  rw [List.map_append]
  show _ ++ [(PyData.tuple ((k.map Sum.inl).map keyD), _)] = _
  rw [List.map_map]
  rfl
theorem getY_ent {k : List Int} {ks : List (List Int)} (h : ∀ l ∈ ks, l ≠ []) (hk : k ≠ []) : getY (.dict (entK ks)) (kD k) = some (if k ∈ ks then some (.bool true) else none) := by
  show (keyY (kD k)).bind _ = _
  rw [keyY_kD hk, Option.bind_some, if_pos (okY_ent _ _), lookY_ent h]
theorem inY_ev {k : List Int} {ks : List (List Int)} (h : ∀ l ∈ ks, l ≠ []) (hk : k ≠ []) : inY (kD k) (.dict (entK ks)) = some (.bool (decide (k ∈ ks))) := by
  unfold inY
  rw [getY_ent h hk]
  by_cases m : k ∈ ks <;> simp [m, isSomeB]
theorem notInY_ev {k : List Int} {ks : List (List Int)} (h : ∀ l ∈ ks, l ≠ []) (hk : k ≠ []) : notInY (kD k) (.dict (entK ks)) = some (.bool (!decide (k ∈ ks))) := by
  unfold notInY
  rw [getY_ent h hk]
  by_cases m : k ∈ ks <;> simp [m, isSomeB]
theorem sPutY_ev {i : Nat} {fk fv : Fe} {s : S} {k : List Int} {ks : List (List Int)} (h0 : s.ownY i = some (entK ks)) (hv : fv s = some (.bool true, s)) (hk : fk s = some (kD k, s)) (h : ∀ l ∈ ks, l ≠ []) (hn : k ≠ []) (hm : k ∉ ks) (hl : ks.length < 100000) : sPutY i fk fv s = some (.next, s.put i (.own (.dict (entK (ks ++ [k]))))) := by
  unfold sPutY
  rw [hv, Option.bind_some]
  dsimp only
  rw [h0, Option.bind_some, hk, Option.bind_some]
  dsimp only
  rw [h0, Option.bind_some, keyY_kD hn, Option.bind_some, if_pos ⟨okY_ent _ _, by unfold entK; rw [List.length_map]; exact hl⟩, putY_ent h hm]
theorem keysD_ev (ks : List (List Int)) : keysD (.dict (entK ks)) = some (ks.map kD) := by
  show (if okY (entK ks) (.t []) = true then some ((entK ks).map (·.1)) else none) = _
  rw [if_pos (okY_ent _ _)]
  unfold entK
  rw [List.map_map]
  rfl
/-! sorting rows -/
theorem leK (k l : List Int) : PySem.W.dataLe false id (kD k) (kD l) = leR k l := by
  show (!PySem.W.dataLt (kD l) (kD k)) = _
  rw [PySem.W.dataLt_tuple, leR_le]
  show (!PySem.W.rowLt (l.map .int) (k.map .int)) = _
  rw [PySem.W.dataLt_ints]
  by_cases q : l < k
  · have h' : ¬ k ≤ l := fun r => List.not_lt.mpr r q
    simp [q, h']
  · have h' : k ≤ l := List.not_lt.mp q
    simp [q, h']
theorem sortL_rows (ks : List (List Int)) : sortL (ks.map kD) = (ks.mergeSort leR).map kD := by
  unfold sortL
  rw [← PySem.W.sort_maps kD (fun a _ b _ => (leK a b).symm)]
theorem sortedD_ev {ks : List (List Int)} (hn : ∀ k ∈ ks, k ≠ []) : sortedD [.list (ks.map kD)] = some (.list ((ks.mergeSort leR).map kD)) := by
  show (if alikeB (ks.map kD) = true ∧ sortableB (ks.map kD) = true ∧ shapedB (ks.map kD) = true then _ else _) = _
  rw [if_pos, sortL_rows]
  refine ⟨?_, ?_, ?_⟩
  · unfold alikeB
    rw [List.all_eq_true]
    intro d hd
    rw [List.all_eq_true]
    intro e he
    obtain ⟨k, _, rfl⟩ := List.mem_map.mp hd
    obtain ⟨l, _, rfl⟩ := List.mem_map.mp he
    simp only [PySem.W.alike]
    exact PySem.W.alike_ints k l
  · unfold sortableB
    rw [Bool.or_eq_true]
    left
    rw [List.all_eq_true]
    intro d hd
    obtain ⟨k, hk, rfl⟩ := List.mem_map.mp hd
    cases k with
    | nil => exact absurd rfl (hn _ hk)
    | cons x r => rfl
  · unfold shapedB
    rw [List.all_eq_true]
    intro d hd
    obtain ⟨k, _, rfl⟩ := List.mem_map.mp hd
    rw [canLay_kD, depth_kD]
    rfl
theorem catD_ev {a b : List D} (h : a.length + b.length ≤ 100000) : catD (.list a) (.list b) = some (.list (a ++ b)) := by
  show (if _ then some _ else none) = _
  rw [if_pos h]
/-! squares -/
def sqL (r : Rc) : List (List Int) := (rng r.a r.c).flatMap fun x => (rng r.b r.d).map fun y => [x, y]
theorem mem_sqL {r : Rc} {k : List Int} : k ∈ sqL r ↔ ∃ x y, k = [x, y] ∧ r.a ≤ x ∧ x < r.c ∧ r.b ≤ y ∧ y < r.d := by
  unfold sqL
  rw [List.mem_flatMap]
  constructor
  · rintro ⟨x, hx, hk⟩
    obtain ⟨y, hy, rfl⟩ := List.mem_map.mp hk
    rw [mem_rng] at hx hy
    exact ⟨x, y, rfl, hx.1, hx.2, hy.1, hy.2⟩
  · rintro ⟨x, y, rfl, h1, h2, h3, h4⟩
    exact ⟨x, mem_rng.mpr ⟨h1, h2⟩, List.mem_map.mpr ⟨y, mem_rng.mpr ⟨h3, h4⟩, rfl⟩⟩
theorem rowsI_map : ∀ k : List Int, rowsI (k.map PyData.int) = some k
  | [] => rfl
  | n :: k => by show (rowsI (k.map PyData.int)).map _ = _; rw [rowsI_map k]; rfl
theorem rowsT_map : ∀ {ks : List (List Int)}, (∀ k ∈ ks, k ≠ []) → rowsT (ks.map kD) = some ks
  | [], _ => rfl
  | [] :: ks, h => absurd rfl (h [] List.mem_cons_self)
  | (x :: k) :: ks, h => by
    show (rowsI (.int x :: k.map PyData.int)).bind _ = _
    rw [show rowsI (.int x :: k.map PyData.int) = some (x :: k) from rowsI_map (x :: k), Option.bind_some]
    show (rowsT (ks.map kD)).map _ = _
    rw [rowsT_map fun l hl => h l (List.mem_cons_of_mem _ hl)]
    rfl
/-- what sorted(set(..)) gives: the same rows, each once -/
theorem ddR_len : ∀ xs : List (List Int), (dd xs).length ≤ xs.length
  | [] => Nat.le_refl _
  | a :: r => by
    have := ddR_len r
    unfold dd
    split
    · rw [List.length_cons]; omega
    · rw [List.length_cons, List.length_cons]; omega
theorem sortSet_ev2 {ks : List (List Int)} (h : ∀ k ∈ ks, k ≠ []) (hl : ks.length ≤ 4000) (hd : (dd ks).length ≤ 76) : ∃ cs : List (List Int), sortSetD (.list (ks.map kD)) = some (.list (cs.map kD)) ∧ (∀ k, k ∈ cs ↔ k ∈ ks) ∧ cs.length ≤ (dd ks).length ∧ cs.Nodup := by
  cases ks with
  | nil => exact ⟨[], rfl, fun k => Iff.rfl, Nat.zero_le _, List.nodup_nil⟩
  | cons k ks =>
    refine ⟨sortR (k :: ks), ?_, fun l => ?_, ?_, ?_⟩
    · unfold sortSetD
      dsimp only
      have e : rowsI ((k :: ks).map kD) = none := rfl
      rw [e, rowsT_map h]
      dsimp only
      rw [if_pos ⟨hl, hd⟩]
      rfl
    · unfold sortR
      rw [(isort_perm leR _).mem_iff, mem_dd]
    · unfold sortR
      rw [(isort_perm leR _).length_eq]
      exact Nat.le_refl _
    · unfold sortR
      exact (isort_perm leR _).nodup_iff.mpr (nodup_dd _)
theorem sortSet_ev {ks : List (List Int)} (h : ∀ k ∈ ks, k ≠ []) (hl : ks.length < 64) : ∃ cs : List (List Int), sortSetD (.list (ks.map kD)) = some (.list (cs.map kD)) ∧ (∀ k, k ∈ cs ↔ k ∈ ks) ∧ cs.length ≤ ks.length := by
  have := ddR_len ks
  obtain ⟨cs, e1, e2, e3, _⟩ := sortSet_ev2 h (by omega) (by omega)
  exact ⟨cs, e1, e2, by omega⟩
end Fx

namespace Fx
open PySem PySem.Spec L2
/-! plain: what fits -/
def opnP (R : Rm) (x y : Int) : Prop := 0 ≤ x ∧ x < R.w ∧ 0 ≤ y ∧ y < R.h ∧ ∀ q ∈ R.bl, ¬ (q.a ≤ x ∧ x < q.c ∧ q.b ≤ y ∧ y < q.d)
def inR (r : Rc) (x y : Int) : Prop := r.a ≤ x ∧ x < r.c ∧ r.b ≤ y ∧ y < r.d
def prop (r : Rc) : Prop := r.a < r.c ∧ r.b < r.d
theorem ov_iff (r s : Rc) (hr : prop r) (hs : prop s) : ov r s = true ↔ ∃ x y, inR r x y ∧ inR s x y := by
  unfold ov inR
  simp only [Bool.and_eq_true, decide_eq_true_eq]
  constructor
  · rintro ⟨h1, h2, h3, h4⟩
    obtain ⟨a, b⟩ := hr
    obtain ⟨c, d⟩ := hs
    refine ⟨if r.a < s.a then s.a else r.a, if r.b < s.b then s.b else r.b, ?_, ?_⟩ <;> (split <;> split <;> omega)
  · rintro ⟨x, y, h1, h2⟩
    omega
theorem fit_iff (R : Rm) (hR : okR R) (r : Rc) (hr : prop r) : fit R r = true ↔ ∀ x y, inR r x y → opnP R x y := by
  have pb : ∀ q ∈ R.bl, prop q := fun q hq => by have := hR.2.2.2.2.2 q hq; exact ⟨this.2.1, this.2.2.2.1⟩
  unfold fit out
  simp only [Bool.and_eq_true, Bool.not_eq_true', Bool.or_eq_false_iff, decide_eq_false_iff_not, List.any_eq_false]
  constructor
  · rintro ⟨⟨h1, h2, h3, h4⟩, h5⟩ x y hxy
    refine ⟨by unfold inR at hxy; omega, by unfold inR at hxy; omega, by unfold inR at hxy; omega, by unfold inR at hxy; omega, fun q hq hin => ?_⟩
    exact h5 q hq ((ov_iff r q hr (pb q hq)).mpr ⟨x, y, hxy, hin⟩)
  · intro h
    obtain ⟨p1, p2⟩ := hr
    have a1 := h r.a r.b ⟨by omega, by omega, by omega, by omega⟩
    have a2 := h (r.c - 1) (r.d - 1) ⟨by omega, by omega, by omega, by omega⟩
    unfold opnP at a1 a2
    refine ⟨⟨by omega, by omega, by omega, by omega⟩, fun q hq ho => ?_⟩
    obtain ⟨x, y, h1, h2⟩ := (ov_iff r q ⟨p1, p2⟩ (pb q hq)).mp ho
    exact (h x y h1).2.2.2.2 q hq h2
/-! ranges rise -/
theorem rng_pw (lo hi : Int) : (rng lo hi).Pairwise (· < ·) := by
  unfold rng
  rw [List.pairwise_map]
  refine List.Pairwise.imp (fun {a b} h => ?_) List.pairwise_lt_range
  omega
/-! the open squares -/
def opn (R : Rm) (cs : List (List Int)) : List (List Int) := (rng 0 R.w).flatMap fun x => ((rng 0 R.h).filter fun y => !decide ([x, y] ∈ cs)).map fun y => [x, y]
/-! the reach -/
theorem reach_fold : ∀ (xs : List Rc) (m : Int), m ≤ xs.foldl (fun m r => maxI (m :: absR r)) m ∧ (∀ r ∈ xs, ∀ n ∈ absR r, n ≤ xs.foldl (fun m r => maxI (m :: absR r)) m) ∧ (xs.foldl (fun m r => maxI (m :: absR r)) m = m ∨ ∃ r ∈ xs, xs.foldl (fun m r => maxI (m :: absR r)) m ∈ absR r)
  | [], m => ⟨Int.le_refl m, fun r hr => (nomatch hr), .inl rfl⟩
  | r :: xs, m => by
    rw [List.foldl_cons]
    obtain ⟨h1, h2, h3⟩ := reach_fold xs (maxI (m :: absR r))
    have q : m ≤ maxI (m :: absR r) := maxI_ge List.mem_cons_self
    refine ⟨Int.le_trans q h1, fun s hs n hn => ?_, ?_⟩
    · rcases List.mem_cons.mp hs with rfl | hs
      · exact Int.le_trans (maxI_ge (List.mem_cons_of_mem _ hn)) h1
      · exact h2 s hs n hn
    · rcases h3 with h3 | ⟨s, hs, h3⟩
      · rw [h3]
        rcases List.mem_cons.mp (maxI_mem (ns := m :: absR r) (fun z => nomatch z)) with e | e
        · exact .inl e
        · exact .inr ⟨r, List.mem_cons_self, e⟩
      · exact .inr ⟨s, List.mem_cons_of_mem _ hs, h3⟩
theorem mem_absR {n : Int} {r : Rc} (h : n ∈ absR r) : n = abI r.a ∨ n = abI r.b ∨ n = abI r.c ∨ n = abI r.d := by simpa [absR] using h
end Fx

namespace Fx
open PySem PySem.Spec L2
theorem rows_pairs : ∀ {cs : List (List Int)}, (∀ k ∈ cs, ∃ x y, k = [x, y]) → ∃ ps : List (Int × Int), cs = ps.map fun p => [p.1, p.2]
  | [], _ => ⟨[], rfl⟩
  | k :: cs, h => by
    obtain ⟨x, y, rfl⟩ := h k List.mem_cons_self
    obtain ⟨ps, rfl⟩ := rows_pairs fun l hl => h l (List.mem_cons_of_mem _ hl)
    exact ⟨(x, y) :: ps, rfl⟩
theorem sThenFrz_ev {i : Nat} {F : Fs} {s s1 : S} {ds : List D} (h : F s = some (.next, s1)) (h1 : s1.rho[i]? = some (.own (.list ds))) : sThenFrz i F s = some (.next, s1.put i (.val (.list ds))) := by
  unfold sThenFrz
  rw [h]
  dsimp only
  rw [h1]
theorem mem_pairs {ps : List (Int × Int)} {x y : Int} : [x, y] ∈ (ps.map fun p => [p.1, p.2]) ↔ (x, y) ∈ ps := by
  rw [List.mem_map]
  constructor
  · rintro ⟨p, hp, e⟩
    injection e with e1 e2
    injection e2 with e2
    rw [← e1, ← e2]
    exact hp
  · intro h
    exact ⟨(x, y), h, rfl⟩
theorem sq_quart {r : Rc} {u v : Int} : inR (quart r) u v ↔ inR r v (-u - 1) := by
  unfold inR quart
  dsimp only
  omega
theorem body_area {b : List Rc} (hb : smallB b) : (b.flatMap sqL).length < 64 := by
  have q := flat_len (f := sqL) (m := 16) (xs := b) fun r hr => by
    have := hb.2.2 r hr
    have h1 : (rng r.b r.d).length ≤ 4 := by rw [rng_len]; omega
    have h2 : (rng r.a r.c).length ≤ 4 := by rw [rng_len]; omega
    have q := flat_len (f := fun x => (rng r.b r.d).map fun y => [x, y]) (m := 4) (xs := rng r.a r.c) fun x _ => by rw [List.length_map]; exact h1
    unfold sqL
    omega
  have := hb.2.1
  omega
/-! _law_fits -/
end Fx

namespace Fx
open PySem PySem.Spec L2
section
variable (R : Rm) (b : List Rc) (os : List (List Int)) (shp fr : D) (c3 : C) (F : Int → Int → Int → Bool) (T : Int → Int → Bool)
/-- the state in _law_world's loops -/
def Ws (fk tk : List (List Int)) (c9 c10 c11 : C) : S := ⟨[.val (rmD R), .val (rcsD b), .val (.dict (entK os)), c3, .val shp, .val fr, .val (.int (frm b)), .own (.dict (entK fk)), .own (.dict (entK tk)), c9, c10, c11], none⟩
def rowQ (x y : Int) (qs : List Int) : List (List Int) := (qs.filter fun q => F x y q).map fun q => [x, y, q]
def rowY (x : Int) (ys : List Int) : List (List Int) := ys.flatMap fun y => rowQ F x y (rng 0 4)
def turY (x : Int) (ys : List Int) : List (List Int) := (ys.filter fun y => T x y).map fun y => [x, y]
def rowX (ys xs : List Int) : List (List Int) := xs.flatMap fun x => rowY F x ys
def turX (ys xs : List Int) : List (List Int) := xs.flatMap fun x => turY T x ys
theorem mem_rowQ {x y : Int} {qs : List Int} {k : List Int} : k ∈ rowQ F x y qs ↔ ∃ q ∈ qs, F x y q = true ∧ k = [x, y, q] := by
  unfold rowQ
  rw [List.mem_map]
  constructor
  · rintro ⟨q, hq, rfl⟩
    obtain ⟨h1, h2⟩ := List.mem_filter.mp hq
    exact ⟨q, h1, h2, rfl⟩
  · rintro ⟨q, h1, h2, rfl⟩
    exact ⟨q, List.mem_filter.mpr ⟨h1, h2⟩, rfl⟩
theorem mem_rowY {x : Int} {ys : List Int} {k : List Int} : k ∈ rowY F x ys ↔ ∃ y ∈ ys, ∃ q ∈ rng 0 4, F x y q = true ∧ k = [x, y, q] := by
  unfold rowY
  rw [List.mem_flatMap]
  simp only [mem_rowQ]
theorem mem_rowX {ys xs : List Int} {k : List Int} : k ∈ rowX F ys xs ↔ ∃ x ∈ xs, ∃ y ∈ ys, ∃ q ∈ rng 0 4, F x y q = true ∧ k = [x, y, q] := by
  unfold rowX
  rw [List.mem_flatMap]
  simp only [mem_rowY]
theorem mem_turY {x : Int} {ys : List Int} {k : List Int} : k ∈ turY T x ys ↔ ∃ y ∈ ys, T x y = true ∧ k = [x, y] := by
  unfold turY
  rw [List.mem_map]
  constructor
  · rintro ⟨q, hq, rfl⟩
    obtain ⟨h1, h2⟩ := List.mem_filter.mp hq
    exact ⟨q, h1, h2, rfl⟩
  · rintro ⟨q, h1, h2, rfl⟩
    exact ⟨q, List.mem_filter.mpr ⟨h1, h2⟩, rfl⟩
theorem mem_turX {ys xs : List Int} {k : List Int} : k ∈ turX T ys xs ↔ ∃ x ∈ xs, ∃ y ∈ ys, T x y = true ∧ k = [x, y] := by
  unfold turX
  rw [List.mem_flatMap]
  simp only [mem_turY]
theorem rowQ_len (x y : Int) (qs : List Int) : (rowQ F x y qs).length ≤ qs.length := by
  unfold rowQ
  rw [List.length_map]
  exact List.length_filter_le _ _
theorem rowY_len (x : Int) (ys : List Int) : (rowY F x ys).length ≤ ys.length * 4 := flat_len fun y _ => rowQ_len F x y (rng 0 4)
theorem turY_len (x : Int) (ys : List Int) : (turY T x ys).length ≤ ys.length := by
  unfold turY
  rw [List.length_map]
  exact List.length_filter_le _ _
theorem rowX_len (ys xs : List Int) (h : ys.length ≤ 77) : (rowX F ys xs).length ≤ xs.length * 308 := flat_len fun x _ => Nat.le_trans (rowY_len F x ys) (by omega)
theorem turX_len (ys xs : List Int) (h : ys.length ≤ 77) : (turX T ys xs).length ≤ xs.length * 77 := flat_len fun x _ => Nat.le_trans (turY_len T x ys) h
theorem split_new {lo hi : Int} {pre suf : List Int} {x : Int} (h : rng lo hi = pre ++ x :: suf) : x ∉ pre ∧ pre.length < (rng lo hi).length := by
  have p := rng_pw lo hi
  rw [h, List.pairwise_append] at p
  refine ⟨fun z => ?_, by rw [h, List.length_append, List.length_cons]; omega⟩
  have := p.2.2 x z x List.mem_cons_self
  omega
end
end Fx

namespace Fx
open PySem PySem.Spec L2
theorem turn_prop {b : List Rc} (hb : okB b) (q : Int) : ∀ r ∈ turnB b q, prop r := by
  unfold turnB
  generalize rng 0 q = xs
  have h0 : ∀ r ∈ b, prop r := fun r hr => by have := hb.2.2 r hr; exact ⟨this.2.1, this.2.2.2.2.1⟩
  clear hb
  induction xs generalizing b with
  | nil => exact h0
  | cons x xs ih =>
    rw [List.foldl_cons]
    refine ih fun r hr => ?_
    obtain ⟨s, hs, rfl⟩ := List.mem_map.mp hr
    have := h0 s hs
    unfold prop quart at *
    dsimp only
    omega
theorem frm_pos {b : List Rc} (hb : okB b) : 1 ≤ frm b := by
  obtain ⟨h1, r, hr, _⟩ := frm_spec hb
  have a := h1 r hr
  have c := hb.2.2 r hr
  unfold abI at a
  have f0 := (frm_bd hb).1
  by_cases z : frm b = 0
  · rw [z] at a
    obtain ⟨a1, _, a3, _⟩ := a
    split at a1 <;> split at a3 <;> omega
  · omega
theorem std_iff (R : Rm) (hR : okR R) (b : List Rc) (hb : okB b) (x y q : Int) : std R b ⟨x, y, q⟩ = true ↔ ∀ u v, (∃ r ∈ turnB b q, inR r u v) → opnP R (u + x) (v + y) := by
  unfold std plc
  rw [List.all_eq_true]
  have sp : ∀ r, prop r → prop (shift x y r) := fun r h => by unfold prop shift at *; dsimp only; omega
  constructor
  · rintro h u v ⟨r, hr, hin⟩
    have := (fit_iff R hR _ (sp r (turn_prop hb q r hr))).mp (h _ (List.mem_map.mpr ⟨r, hr, rfl⟩))
    exact this (u + x) (v + y) (by unfold inR shift at *; dsimp only at *; omega)
  · intro h s hs
    obtain ⟨r, hr, rfl⟩ := List.mem_map.mp hs
    refine (fit_iff R hR _ (sp r (turn_prop hb q r hr))).mpr fun u v hin => ?_
    have := h (u - x) (v - y) ⟨r, hr, by unfold inR shift at *; dsimp only at *; omega⟩
    rw [Int.sub_add_cancel, Int.sub_add_cancel] at this
    exact this
theorem frame_iff (R : Rm) (hR : okR R) (f : Int) (hf : 1 ≤ f) (x y : Int) : fit R (frR x y f) = true ↔ ∀ u v, inR ⟨0 - f, 0 - f, f, f⟩ u v → opnP R (u + x) (v + y) := by
  have hp : prop (frR x y f) := by unfold prop frR; dsimp only; omega
  rw [fit_iff R hR _ hp]
  constructor
  · intro h u v hin
    exact h (u + x) (v + y) (by unfold inR frR at *; dsimp only at *; omega)
  · intro h u v hin
    have := h (u - x) (v - y) (by unfold inR frR at *; dsimp only at *; omega)
    rw [Int.sub_add_cancel, Int.sub_add_cancel] at this
    exact this
theorem room_area {R : Rm} (h : smallR R) : (R.bl.flatMap sqL).length < 64 := by
  have q := flat_len (f := sqL) (m := 9) (xs := R.bl) fun r hr => by
    have := h.2.2.2.2.2 r hr
    have h1 : (rng r.b r.d).length ≤ 3 := by rw [rng_len]; omega
    have h2 : (rng r.a r.c).length ≤ 3 := by rw [rng_len]; omega
    have q := flat_len (f := fun x => (rng r.b r.d).map fun y => [x, y]) (m := 3) (xs := rng r.a r.c) fun x _ => by rw [List.length_map]; exact h1
    unfold sqL
    omega
  have := h.2.2.2.2.1
  omega
end Fx

namespace Fx
open PySem PySem.Spec L2
/-! plain: how far -/
theorem abI_le {n M : Int} : abI n ≤ M ↔ -M ≤ n ∧ n ≤ M := by unfold abI; split <;> omega
theorem turn_bd {b : List Rc} {M : Int} (h0 : ∀ r ∈ b, -M ≤ r.a ∧ r.a ≤ M ∧ -M ≤ r.b ∧ r.b ≤ M ∧ -M ≤ r.c ∧ r.c ≤ M ∧ -M ≤ r.d ∧ r.d ≤ M) (q : Int) : ∀ r ∈ turnB b q, -M ≤ r.a ∧ r.a ≤ M ∧ -M ≤ r.b ∧ r.b ≤ M ∧ -M ≤ r.c ∧ r.c ≤ M ∧ -M ≤ r.d ∧ r.d ≤ M := by
  unfold turnB
  generalize rng 0 q = xs
  induction xs generalizing b with
  | nil => exact h0
  | cons x xs ih =>
    rw [List.foldl_cons]
    refine ih fun r hr => ?_
    obtain ⟨s, hs, rfl⟩ := List.mem_map.mp hr
    have := h0 s hs
    unfold quart
    dsimp only
    omega
theorem turn_ne {b : List Rc} (h : b ≠ []) (q : Int) : turnB b q ≠ [] := by
  unfold turnB
  generalize rng 0 q = xs
  induction xs generalizing b with
  | nil => exact h
  | cons x xs ih =>
    rw [List.foldl_cons]
    exact ih (by simpa using h)
theorem fit_bd {R : Rm} {r : Rc} (h : fit R r = true) : 0 ≤ r.a ∧ 0 ≤ r.b ∧ r.c ≤ R.w ∧ r.d ≤ R.h := by
  unfold fit out at h
  simp only [Bool.and_eq_true, Bool.not_eq_true', Bool.or_eq_false_iff, decide_eq_false_iff_not] at h
  omega
theorem std_range {R : Rm} {b : List Rc} (hb : okB b) {x y q : Int} (h : std R b ⟨x, y, q⟩ = true) : -frm b ≤ x ∧ x ≤ R.w + frm b ∧ -frm b ≤ y ∧ y ≤ R.h + frm b := by
  have hne : b ≠ [] := fun z => by have := hb.1; rw [z] at this; simp at this
  obtain ⟨r, hr⟩ := List.exists_mem_of_ne_nil _ (turn_ne hne q)
  have bd := turn_bd (M := frm b) (fun r hr => by
    have := (frm_spec hb).1 r hr
    simp only [abI_le] at this
    omega) q r hr
  unfold std at h
  rw [List.all_eq_true] at h
  have f := fit_bd (h (shift x y r) (List.mem_map.mpr ⟨r, hr, rfl⟩))
  unfold shift at f
  dsimp only at f
  omega
theorem least {p : Nat → Bool} : ∀ N : Nat, p N = false → ∃ n, n ≤ N ∧ p n = false ∧ ∀ k, k < n → p k = true
  | 0, h => ⟨0, Nat.le_refl _, h, fun k hk => absurd hk (Nat.not_lt_zero k)⟩
  | N + 1, h => by
    by_cases z : ∃ m, m ≤ N ∧ p m = false
    · obtain ⟨m, hm, hp⟩ := z
      obtain ⟨n, h1, h2, h3⟩ := least m hp
      exact ⟨n, by omega, h2, h3⟩
    · refine ⟨N + 1, Nat.le_refl _, h, fun k hk => ?_⟩
      cases q : p k with
      | true => rfl
      | false => exact absurd ⟨k, by omega, q⟩ z
/-- a slide is free just where each step is -/
theorem sld_iff (R : Rm) (hR : okR R) (b : List Rc) (hb : okB b) (x y q dx dy : Int) (hd : (dx, dy) ∈ dirs) (m : Nat) : sld R b ⟨x, y, q⟩ (dx * m) (dy * m) = true ↔ ∀ j : Nat, j ≤ m → std R b ⟨x + dx * j, y + dy * j, q⟩ = true := by
  have eq1 : sld R b ⟨x, y, q⟩ (dx * m) (dy * m) = true ↔ ∀ r ∈ turnB b q, ∀ u v, inR (ext (dx * m) (dy * m) (shift x y r)) u v → opnP R u v := by
    unfold sld plc
    rw [List.all_eq_true]
    have pe : ∀ r ∈ turnB b q, prop (ext (dx * m) (dy * m) (shift x y r)) := fun r hr => by
      have := turn_prop hb q r hr
      unfold prop ext shift mn mx at *
      dsimp only
      constructor <;> (split <;> split <;> omega)
    constructor
    · intro h r hr u v hin
      exact (fit_iff R hR _ (pe r hr)).mp (h _ (List.mem_map.mpr ⟨r, hr, rfl⟩)) u v hin
    · intro h s hs
      obtain ⟨r, hr, rfl⟩ := List.mem_map.mp hs
      exact (fit_iff R hR _ (pe r hr)).mpr fun u v hin => h r hr u v hin
  have eq2 : ∀ X Y : Int, std R b ⟨X, Y, q⟩ = true ↔ ∀ r ∈ turnB b q, ∀ u v, inR (shift X Y r) u v → opnP R u v := fun X Y => by
    rw [std_iff R hR b hb]
    constructor
    · intro h r hr u v hin
      have := h (u - X) (v - Y) ⟨r, hr, by unfold inR shift at *; dsimp only at *; omega⟩
      rw [Int.sub_add_cancel, Int.sub_add_cancel] at this
      exact this
    · rintro h u v ⟨r, hr, hin⟩
      exact h r hr (u + X) (v + Y) (by unfold inR shift at *; dsimp only at *; omega)
  rw [eq1]
  simp only [eq2]
  have hd' : (dx = 1 ∧ dy = 0) ∨ (dx = -1 ∧ dy = 0) ∨ (dx = 0 ∧ dy = 1) ∨ (dx = 0 ∧ dy = -1) := by simpa [dirs] using hd
  constructor
  · intro h j hj r hr u v hin
    refine h r hr u v ?_
    unfold inR ext shift mn mx at *
    dsimp only at *
    rcases hd' with ⟨rfl, rfl⟩ | ⟨rfl, rfl⟩ | ⟨rfl, rfl⟩ | ⟨rfl, rfl⟩ <;> (refine ⟨?_, ?_, ?_, ?_⟩ <;> (try split) <;> omega)
  · intro h r hr u v hin
    have pr := turn_prop hb q r hr
    unfold prop at pr
    rcases hd' with ⟨rfl, rfl⟩ | ⟨rfl, rfl⟩ | ⟨rfl, rfl⟩ | ⟨rfl, rfl⟩
    · by_cases z : u < r.c + x
      · exact h 0 (by omega) r hr u v (by unfold inR ext shift mn mx at *; dsimp only at *; (repeat' split at hin) <;> omega)
      · exact h (u - (r.c + x) + 1).toNat (by unfold inR ext shift mn mx at hin; dsimp only at hin; (repeat' split at hin) <;> omega) r hr u v (by unfold inR ext shift mn mx at *; dsimp only at *; (repeat' split at hin) <;> omega)
    · by_cases z : r.a + x ≤ u
      · exact h 0 (by omega) r hr u v (by unfold inR ext shift mn mx at *; dsimp only at *; (repeat' split at hin) <;> omega)
      · exact h (r.a + x - u).toNat (by unfold inR ext shift mn mx at hin; dsimp only at hin; (repeat' split at hin) <;> omega) r hr u v (by unfold inR ext shift mn mx at *; dsimp only at *; (repeat' split at hin) <;> omega)
    · by_cases z : v < r.d + y
      · exact h 0 (by omega) r hr u v (by unfold inR ext shift mn mx at *; dsimp only at *; (repeat' split at hin) <;> omega)
      · exact h (v - (r.d + y) + 1).toNat (by unfold inR ext shift mn mx at hin; dsimp only at hin; (repeat' split at hin) <;> omega) r hr u v (by unfold inR ext shift mn mx at *; dsimp only at *; (repeat' split at hin) <;> omega)
    · by_cases z : r.b + y ≤ v
      · exact h 0 (by omega) r hr u v (by unfold inR ext shift mn mx at *; dsimp only at *; (repeat' split at hin) <;> omega)
      · exact h (r.b + y - v).toNat (by unfold inR ext shift mn mx at hin; dsimp only at hin; (repeat' split at hin) <;> omega) r hr u v (by unfold inR ext shift mn mx at *; dsimp only at *; (repeat' split at hin) <;> omega)
/-! the tables -/
section
variable {R : Rm} {b : List Rc} {F : Int → Int → Int → Bool} {T : Int → Int → Bool}
theorem free_rows (hF : ∀ x y q, 0 ≤ q ∧ q ≤ 3 → F x y q = std R b ⟨x, y, q⟩) : rowX F (rng (0 - frm b) (R.h + frm b + 1)) (rng (0 - frm b) (R.w + frm b + 1)) = (allS R b).map fun s => [s.x, s.y, s.t] := by
  unfold rowX rowY allS
  rw [Int.zero_sub, List.map_flatMap]
  congr 1
  funext x
  rw [List.map_flatMap]
  congr 1
  funext y
  unfold rowQ lineS
  rw [List.map_map]
  have e : (rng 0 4).filter (fun q => F x y q) = (rng 0 4).filter fun t => std R b ⟨x, y, t⟩ := List.filter_congr fun q hq => hF x y q (by rw [mem_rng] at hq; omega)
  rw [e]
  rfl
theorem free_mem (hb : okB b) (hF : ∀ x y q, 0 ≤ q ∧ q ≤ 3 → F x y q = std R b ⟨x, y, q⟩) {x y q : Int} (hq : 0 ≤ q ∧ q ≤ 3) : decide ([x, y, q] ∈ rowX F (rng (0 - frm b) (R.h + frm b + 1)) (rng (0 - frm b) (R.w + frm b + 1))) = std R b ⟨x, y, q⟩ := by
  rw [Bool.eq_iff_iff, decide_eq_true_eq, mem_rowX]
  constructor
  · rintro ⟨x', _, y', _, q', hq', hf, e⟩
    injection e with e1 e
    injection e with e2 e
    injection e with e3
    subst e1 e2 e3
    rw [← hF _ _ _ hq]
    exact hf
  · intro h
    have r := std_range hb h
    exact ⟨x, mem_rng.mpr (by omega), y, mem_rng.mpr (by omega), q, mem_rng.mpr (by omega), by rw [hF _ _ _ hq]; exact h, rfl⟩
theorem turn_mem (hb : okB b) (hT : ∀ x y, T x y = fit R (frR x y (frm b))) {x y : Int} : decide ([x, y] ∈ turX T (rng (0 - frm b) (R.h + frm b + 1)) (rng (0 - frm b) (R.w + frm b + 1))) = fit R (frR x y (frm b)) := by
  rw [Bool.eq_iff_iff, decide_eq_true_eq, mem_turX]
  constructor
  · rintro ⟨x', _, y', _, hf, e⟩
    injection e with e1 e
    injection e with e2
    subst e1 e2
    rw [← hT]
    exact hf
  · intro h
    have r := fit_bd h
    unfold frR at r
    dsimp only at r
    have f0 := (frm_bd hb).1
    exact ⟨x, mem_rng.mpr (by omega), y, mem_rng.mpr (by omega), by rw [hT]; exact h, rfl⟩
theorem leR_cons {x y : Int} {k l : List Int} : leR (x :: k) (y :: l) = true ↔ x < y ∨ (x = y ∧ leR k l = true) := by
  show (if x = y then leR k l else decide (x < y)) = true ↔ _
  by_cases h : x = y
  · simp [h]
  · simp [h]
theorem rows_sorted {ys xs : List Int} (hx : xs.Pairwise (· < ·)) (hy : ys.Pairwise (· < ·)) : (rowX F ys xs).Pairwise fun k l => leR k l = true := by
  unfold rowX
  rw [List.pairwise_flatMap]
  refine ⟨fun x _ => ?_, List.Pairwise.imp (fun {a c} h k hk l hl => ?_) hx⟩
  · unfold rowY
    rw [List.pairwise_flatMap]
    refine ⟨fun y _ => ?_, List.Pairwise.imp (fun {a c} h k hk l hl => ?_) hy⟩
    · unfold rowQ
      rw [List.pairwise_map]
      refine List.Pairwise.imp (fun {a c} h => ?_) (List.Pairwise.filter _ (rng_pw 0 4))
      rw [leR_cons]
      refine .inr ⟨rfl, ?_⟩
      rw [leR_cons]
      refine .inr ⟨rfl, ?_⟩
      rw [leR_cons]
      exact .inl h
    · obtain ⟨_, _, _, rfl⟩ := (mem_rowQ F).mp hk
      obtain ⟨_, _, _, rfl⟩ := (mem_rowQ F).mp hl
      rw [leR_cons]
      refine .inr ⟨rfl, ?_⟩
      rw [leR_cons]
      exact .inl h
  · obtain ⟨_, _, _, _, _, rfl⟩ := (mem_rowY F).mp hk
    obtain ⟨_, _, _, _, _, rfl⟩ := (mem_rowY F).mp hl
    rw [leR_cons]
    exact .inl h
end
theorem eFnK_ev {n m : Nat} {g : List D → Option D} {fa fk : Fa} {s s1 s2 : S} {xs ys : List D} {d : D} (h1 : fa s = some (xs, s1)) (h2 : fk s1 = some (ys, s2)) (hn : xs.length = n) (hm : ys.length = m) (h3 : g (xs ++ ys) = some d) : eFnK n m g fa fk s = some (d, s2) := by
  unfold eFnK
  rw [h1, Option.bind_some]
  dsimp only
  rw [h2, Option.bind_some]
  dsimp only
  rw [if_pos ⟨hn, hm⟩, h3]
  rfl
end Fx

namespace Fx
open PySem PySem.Spec L2
/-! ### lines -/
theorem pforg_ev {α : Type} {fi : Fa} {g : Fg} {ft : Fe} {vs : List Nat} {s : S} (ys : List α) (enc : α → D) (p : α → Bool) (L : α → List D) {inner : Fp} {acc : List D} (h0 : allNo s vs = true) (h1 : fi s = some (ys.map enc, s)) (hs : ∀ y ∈ ys, ∃ sy, g (enc y) s = some sy ∧ ft sy = some (.bool (p y), sy) ∧ (p y = true → ∀ acc, acc.length + (L y).length ≤ 100000 → inner acc sy = some (acc ++ L y, sy)) ∧ sy.wipe vs = s) (hl : acc.length + ((ys.filter p).flatMap L).length ≤ 100000) :
    pFor fi g ft vs inner acc s = some (acc ++ (ys.filter p).flatMap L, s) := by
  unfold pFor
  rw [if_pos h0, h1, Option.bind_some]
  exact clg_ev enc p L hs hl
theorem filter_true {α : Type} (xs : List α) : xs.filter (fun _ => true) = xs := List.filter_eq_self.mpr fun _ _ => rfl
theorem sortI_ev (ns : List Int) (h : ns.length ≤ 4000) : sortSetD (.list (ns.map PyData.int)) = some (.list ((sortI ns).map PyData.int)) := by
  unfold sortSetD
  dsimp only
  rw [rowsI_map]
  exact if_pos h
theorem mem_sortI {n : Int} {ns : List Int} : n ∈ sortI ns ↔ n ∈ ns := by
  unfold sortI
  rw [(isort_perm _ _).mem_iff, mem_dd]
theorem dd_len : ∀ ns : List Int, (dd ns).length ≤ ns.length
  | [] => Nat.le_refl _
  | a :: r => by
    unfold dd
    have := dd_len r
    split
    · rw [List.length_cons]; omega
    · rw [List.length_cons, List.length_cons]; omega
theorem sortI_len (ns : List Int) : (sortI ns).length ≤ ns.length := by
  unfold sortI
  rw [(isort_perm _ _).length_eq]
  exact dd_len ns
theorem pw_lt : ∀ {xs : List Int}, xs.Pairwise (fun a b => leI a b = true) → xs.Nodup → xs.Pairwise (· < ·)
  | [], _, _ => .nil
  | a :: r, h, n => by
    obtain ⟨h1, h2⟩ := List.pairwise_cons.mp h
    obtain ⟨n1, n2⟩ := List.nodup_cons.mp n
    refine List.pairwise_cons.mpr ⟨fun b hb => ?_, pw_lt h2 n2⟩
    have q := h1 b hb
    unfold leI at q
    rw [decide_eq_true_eq] at q
    have : a ≠ b := fun e => n1 (e ▸ hb)
    omega
theorem sortI_pw (ns : List Int) : (sortI ns).Pairwise (· < ·) := by
  refine pw_lt (isort_pw leI_tr leI_tot _) ?_
  exact (isort_perm leI (dd ns)).nodup_iff.mpr (nodup_dd ns)
theorem sortI_congr {ns ms : List Int} (h : ∀ n, n ∈ ns ↔ n ∈ ms) : sortI ns = sortI ms := by
  refine List.Perm.eq_of_pairwise (le := fun a b => leI a b = true) (fun a b _ _ h1 h2 => leI_anti a b h1 h2) (isort_pw leI_tr leI_tot _) (isort_pw leI_tr leI_tot _) ?_
  refine (isort_perm _ _).trans (((List.perm_ext_iff_of_nodup (nodup_dd _) (nodup_dd _)).mpr fun n => ?_).trans (isort_perm _ _).symm)
  rw [mem_dd, mem_dd]
  exact h n
def edX (R : Rm) : List Int := [0, R.w] ++ R.bl.flatMap fun r => [r.a, r.c]
def edY (R : Rm) : List Int := [0, R.h] ++ R.bl.flatMap fun r => [r.b, r.d]
theorem two_len {α : Type} (f g : α → Int) (l : List α) : (l.flatMap fun r => [f r, g r]).length = 2 * l.length := by
  induction l with
  | nil => rfl
  | cons a l ih => rw [List.flatMap_cons, List.length_append, ih, List.length_cons]; simp; omega
theorem edX_len {R : Rm} (hR : okR R) : (edX R).length ≤ 34 := by
  unfold edX
  rw [List.length_append, two_len]
  have := hR.2.2.2.2.1
  simp
  omega
theorem edY_len {R : Rm} (hR : okR R) : (edY R).length ≤ 34 := by
  unfold edY
  rw [List.length_append, two_len]
  have := hR.2.2.2.2.1
  simp
  omega
section
variable (c0 c1 c2 c3 c4 : C)
/-- [one for block in blocks for one in (block[i], block[j])] -/
theorem edge_comp (bl : List Rc) (hl : bl.length ≤ 16) (i j : Int) (fa fb : Rc → Int) (h1 : ∀ r, ixD (rcD r) (.int i) = some (.int (fa r))) (h2 : ∀ r, ixD (rcD r) (.int j) = some (.int (fb r))) :
    eComp (iterS (eVar 5)) (gNm 6) (eC (.bool true)) [6, 7] (pFor (iterS (eTup (aCons (eBin ixD (eVar 6) (eC (.int i))) (aCons (eBin ixD (eVar 6) (eC (.int j))) (aNil))))) (gNm 7) (eC (.bool true)) [7] (pEmit (eVar 7))) ⟨[c0, c1, c2, c3, c4, .val (rcsD bl), .no, .no], none⟩ = some (.list ((bl.flatMap fun r => [fa r, fb r]).map PyData.int), ⟨[c0, c1, c2, c3, c4, .val (rcsD bl), .no, .no], none⟩) := by
  have q := compg_ev (fi := iterS (eVar 5)) (g := gNm 6) (ft := eC (.bool true)) (vs := [6, 7]) (inner := pFor (iterS (eTup (aCons (eBin ixD (eVar 6) (eC (.int i))) (aCons (eBin ixD (eVar 6) (eC (.int j))) (aNil))))) (gNm 7) (eC (.bool true)) [7] (pEmit (eVar 7))) (s := ⟨[c0, c1, c2, c3, c4, .val (rcsD bl), .no, .no], none⟩) (s1 := ⟨[c0, c1, c2, c3, c4, .val (rcsD bl), .no, .no], none⟩) bl rcD (fun _ => true) (fun r => [.int (fa r), .int (fb r)]) rfl rfl rfl (fun r hr => ⟨_, rfl, rfl, fun _ acc ha => ?_, rfl⟩) ?_
  · rw [q, filter_true, List.map_flatMap]
    rfl
  · have it : (iterS (eTup (aCons (eBin ixD (eVar 6) (eC (.int i))) (aCons (eBin ixD (eVar 6) (eC (.int j))) (aNil))))) ⟨[c0, c1, c2, c3, c4, .val (rcsD bl), .val (rcD r), .no], none⟩ = some ([fa r, fb r].map PyData.int, ⟨[c0, c1, c2, c3, c4, .val (rcsD bl), .val (rcD r), .no], none⟩) := iterS_ev (d := .tuple [.int (fa r), .int (fb r)]) (eTup_ev (aCons_ev (eBin_ev rfl rfl (h1 r)) (aOne_ev (eBin_ev rfl rfl (h2 r)))) (by simp)) rfl
    exact pfor_ev (g := gNm 7) (ft := eC (.bool true)) (f := eVar 7) (vs := [7]) (acc := acc) [fa r, fb r] PyData.int (fun _ => true) PyData.int rfl it (fun n _ => ⟨_, rfl, rfl, fun _ => rfl, rfl⟩) (by simpa using ha)
  · rw [filter_true]
    have := flat_len (f := fun r : Rc => [PyData.int (fa r), PyData.int (fb r)]) (m := 2) (xs := bl) fun _ _ => by simp
    omega
end
theorem edges_ev (R : Rm) (hR : okR R) : g_edges_of [rmD R] = some (.tuple [.list ((sortI (edX R)).map PyData.int), .list ((sortI (edY R)).map PyData.int)]) := by
  have l5 := hR.2.2.2.2.1
  have n1 := edX_len hR
  have n2 := edY_len hR
  refine fnV_ex ?_
  refine seq_ex (P := fun s => s = ⟨[.val (rmD R), .no, .no, .val (.int R.w), .val (.int R.h), .val (rcsD R.bl), .no, .no], none⟩) (ex_of rfl rfl) ?_
  rintro _ rfl
  refine seq_ex (P := fun s => s = ⟨[.val (rmD R), .val (.list ((sortI (edX R)).map PyData.int)), .no, .val (.int R.w), .val (.int R.h), .val (rcsD R.bl), .no, .no], none⟩) (ex_of (sSet_ev (eUn_ev (eBin_ev (x := .list ([0, R.w].map PyData.int)) rfl (edge_comp _ _ _ _ _ R.bl l5 0 2 (·.a) (·.c) (fun _ => rfl) fun _ => rfl) (catD_ev ?_)) ?_)) rfl) ?_
  · simp only [List.length_map, two_len]
    simp
    omega
  · rw [← List.map_append]
    exact sortI_ev (edX R) (by omega)
  rintro _ rfl
  refine seq_ex (P := fun s => s = ⟨[.val (rmD R), .val (.list ((sortI (edX R)).map PyData.int)), .val (.list ((sortI (edY R)).map PyData.int)), .val (.int R.w), .val (.int R.h), .val (rcsD R.bl), .no, .no], none⟩) (ex_of (sSet_ev (eUn_ev (eBin_ev (x := .list ([0, R.h].map PyData.int)) rfl (edge_comp _ _ _ _ _ R.bl l5 1 3 (·.b) (·.d) (fun _ => rfl) fun _ => rfl) (catD_ev ?_)) ?_)) rfl) ?_
  · simp only [List.length_map, two_len]
    simp
    omega
  · rw [← List.map_append]
    exact sortI_ev (edY R) (by omega)
  rintro _ rfl
  exact ex_of (sRet_ev rfl) rfl
def rcsF (b : List Rc) (q : Int) : List Rc := turnB b q ++ [⟨-frm b, -frm b, frm b, frm b⟩]
def lq (fa fb : Rc → Int) (ps : List Int) (rs : List Rc) : List Int := ps.flatMap fun p => rs.flatMap fun r => [p - fa r, p - fb r]
def lnX (R : Rm) (b : List Rc) (es : List Sd) : List Int := es.map (·.x) ++ (rng 0 4).flatMap fun q => lq (·.a) (·.c) (sortI (edX R)) (rcsF b q)
def lnY (R : Rm) (b : List Rc) (es : List Sd) : List Int := es.map (·.y) ++ (rng 0 4).flatMap fun q => lq (·.b) (·.d) (sortI (edY R)) (rcsF b q)
def LX (R : Rm) (b : List Rc) (es : List Sd) : List Int := sortI (lnX R b es)
def LY (R : Rm) (b : List Rc) (es : List Sd) : List Int := sortI (lnY R b es)
theorem mem_lq {fa fb : Rc → Int} {ps : List Int} {rs : List Rc} {n : Int} : n ∈ lq fa fb ps rs ↔ ∃ p ∈ ps, ∃ r ∈ rs, n = p - fa r ∨ n = p - fb r := by
  unfold lq
  simp only [List.mem_flatMap, List.mem_cons, List.not_mem_nil, or_false]
theorem mem_LX {R : Rm} {b : List Rc} {es : List Sd} {n : Int} : n ∈ LX R b es ↔ (∃ e ∈ es, n = e.x) ∨ ∃ q, (0 ≤ q ∧ q < 4) ∧ ∃ p ∈ edX R, ∃ r ∈ rcsF b q, n = p - r.a ∨ n = p - r.c := by
  unfold LX lnX
  rw [mem_sortI, List.mem_append, List.mem_map, List.mem_flatMap]
  simp only [mem_rng, mem_lq, mem_sortI, eq_comm]
theorem mem_LY {R : Rm} {b : List Rc} {es : List Sd} {n : Int} : n ∈ LY R b es ↔ (∃ e ∈ es, n = e.y) ∨ ∃ q, (0 ≤ q ∧ q < 4) ∧ ∃ p ∈ edY R, ∃ r ∈ rcsF b q, n = p - r.b ∨ n = p - r.d := by
  unfold LY lnY
  rw [mem_sortI, List.mem_append, List.mem_map, List.mem_flatMap]
  simp only [mem_rng, mem_lq, mem_sortI, eq_comm]
theorem lq_len (fa fb : Rc → Int) {ps : List Int} {rs : List Rc} (h1 : ps.length ≤ 34) (h2 : rs.length ≤ 7) : (lq fa fb ps rs).length ≤ 476 := by
  have := flat_len (f := fun p => rs.flatMap fun r => [p - fa r, p - fb r]) (m := 14) (xs := ps) fun p _ => by rw [two_len]; omega
  show (ps.flatMap fun p => rs.flatMap fun r => [p - fa r, p - fb r]).length ≤ _
  omega
theorem turn_len (b : List Rc) (q : Int) : (turnB b q).length = b.length := by
  unfold turnB
  generalize rng 0 q = l
  induction l generalizing b with
  | nil => rfl
  | cons x l ih => rw [List.foldl_cons, ih, List.length_map]
theorem rcsF_len {b : List Rc} (hb : okB b) (q : Int) : (rcsF b q).length ≤ 7 := by
  unfold rcsF
  rw [List.length_append, turn_len]
  have := hb.2.1
  simp
  omega
section
variable (c0 c1 c2 c3 c4 c5 c6 c7 c8 : C)
/-- [place - one for place in .. for rect in rects for one in (rect[i], rect[j])] -/
theorem line_comp (v : Nat) (ps : List Int) (rs : List Rc) (hp : ps.length ≤ 34) (hr : rs.length ≤ 7) (i j : Int) (fa fb : Rc → Int) (h1 : ∀ r, ixD (rcD r) (.int i) = some (.int (fa r))) (h2 : ∀ r, ixD (rcD r) (.int j) = some (.int (fb r))) (hv : (iterS (eVar v)) ⟨[c0, c1, c2, c3, c4, c5, c6, c7, c8, .val (rcsD rs), .no, .no, .no], none⟩ = some (ps.map PyData.int, ⟨[c0, c1, c2, c3, c4, c5, c6, c7, c8, .val (rcsD rs), .no, .no, .no], none⟩)) :
    eComp (iterS (eVar v)) (gNm 11) (eC (.bool true)) [11, 12, 10] (pFor (iterS (eVar 9)) (gNm 12) (eC (.bool true)) [12] (pFor (iterS (eTup (aCons (eBin ixD (eVar 12) (eC (.int i))) (aCons (eBin ixD (eVar 12) (eC (.int j))) (aNil))))) (gNm 10) (eC (.bool true)) [10] (pEmit (eBin subD (eVar 11) (eVar 10))))) ⟨[c0, c1, c2, c3, c4, c5, c6, c7, c8, .val (rcsD rs), .no, .no, .no], none⟩ = some (.list ((lq fa fb ps rs).map PyData.int), ⟨[c0, c1, c2, c3, c4, c5, c6, c7, c8, .val (rcsD rs), .no, .no, .no], none⟩) := by
  have rl : ∀ p : Int, (rs.flatMap fun r => [PyData.int (p - fa r), PyData.int (p - fb r)]).length ≤ 14 := fun p => by
    have := flat_len (f := fun r : Rc => [PyData.int (p - fa r), PyData.int (p - fb r)]) (m := 2) (xs := rs) fun _ _ => by simp
    omega
  have q := compg_ev (fi := iterS (eVar v)) (g := gNm 11) (ft := eC (.bool true)) (vs := [11, 12, 10]) (inner := pFor (iterS (eVar 9)) (gNm 12) (eC (.bool true)) [12] (pFor (iterS (eTup (aCons (eBin ixD (eVar 12) (eC (.int i))) (aCons (eBin ixD (eVar 12) (eC (.int j))) (aNil))))) (gNm 10) (eC (.bool true)) [10] (pEmit (eBin subD (eVar 11) (eVar 10))))) (s := ⟨[c0, c1, c2, c3, c4, c5, c6, c7, c8, .val (rcsD rs), .no, .no, .no], none⟩) (s1 := ⟨[c0, c1, c2, c3, c4, c5, c6, c7, c8, .val (rcsD rs), .no, .no, .no], none⟩) ps PyData.int (fun _ => true) (fun p => rs.flatMap fun r => [.int (p - fa r), .int (p - fb r)]) hv rfl rfl (fun p hp' => ⟨⟨[c0, c1, c2, c3, c4, c5, c6, c7, c8, .val (rcsD rs), .no, .val (.int p), .no], none⟩, rfl, rfl, fun _ acc ha => ?_, rfl⟩) ?_
  · rw [q, filter_true]
    unfold lq
    simp only [List.map_flatMap, List.map_cons, List.map_nil]
  · have w := pforg_ev (fi := iterS (eVar 9)) (g := gNm 12) (ft := eC (.bool true)) (vs := [12]) (s := ⟨[c0, c1, c2, c3, c4, c5, c6, c7, c8, .val (rcsD rs), .no, .val (.int p), .no], none⟩) (inner := pFor (iterS (eTup (aCons (eBin ixD (eVar 12) (eC (.int i))) (aCons (eBin ixD (eVar 12) (eC (.int j))) (aNil))))) (gNm 10) (eC (.bool true)) [10] (pEmit (eBin subD (eVar 11) (eVar 10)))) (acc := acc) rs rcD (fun _ => true) (fun r => [.int (p - fa r), .int (p - fb r)]) rfl rfl (fun r hr' => ⟨⟨[c0, c1, c2, c3, c4, c5, c6, c7, c8, .val (rcsD rs), .no, .val (.int p), .val (rcD r)], none⟩, rfl, rfl, fun _ acc' ha' => ?_, rfl⟩) (by rw [filter_true]; exact ha)
    · rw [filter_true] at w
      exact w
    · have it : (iterS (eTup (aCons (eBin ixD (eVar 12) (eC (.int i))) (aCons (eBin ixD (eVar 12) (eC (.int j))) (aNil))))) ⟨[c0, c1, c2, c3, c4, c5, c6, c7, c8, .val (rcsD rs), .no, .val (.int p), .val (rcD r)], none⟩ = some ([fa r, fb r].map PyData.int, ⟨[c0, c1, c2, c3, c4, c5, c6, c7, c8, .val (rcsD rs), .no, .val (.int p), .val (rcD r)], none⟩) := iterS_ev (d := .tuple [.int (fa r), .int (fb r)]) (eTup_ev (aCons_ev (eBin_ev rfl rfl (h1 r)) (aOne_ev (eBin_ev rfl rfl (h2 r)))) (by simp)) rfl
      exact pfor_ev (g := gNm 10) (ft := eC (.bool true)) (f := eBin subD (eVar 11) (eVar 10)) (vs := [10]) (acc := acc') [fa r, fb r] PyData.int (fun _ => true) (fun n => .int (p - n)) rfl it (fun n _ => ⟨_, rfl, rfl, fun _ => rfl, rfl⟩) (by simpa using ha')
  · rw [filter_true]
    have := flat_len (f := fun p : Int => rs.flatMap fun r => [PyData.int (p - fa r), PyData.int (p - fb r)]) (m := 14) (xs := ps) fun p _ => rl p
    omega
end
theorem addT_ev (a b : List D) (h : a.length + b.length ≤ 100000) : addD (.tuple a) (.tuple b) = some (.tuple (a ++ b)) := by
  show (if _ then some (PyData.tuple (a ++ b)) else none) = _
  rw [if_pos h]
theorem lines_for_ev (R : Rm) (b : List Rc) (es : List Sd) (c : D) (hR : okR R) (hb : okB b) (hc : seqD c = some (es.map sdD)) (hl : es.length ≤ 1000) : g_lines_for [rmD R, rcsD b, c] = some (.tuple [.list ((LX R b es).map PyData.int), .list ((LY R b es).map PyData.int)]) := by
  have hbl : b.length ≤ 100000 := by have := hb.2.1; omega
  have e1 : (sortI (edX R)).length ≤ 34 := Nat.le_trans (sortI_len _) (edX_len hR)
  have e2 : (sortI (edY R)).length ≤ 34 := Nat.le_trans (sortI_len _) (edY_len hR)
  have xl : ∀ pre : List Int, pre.length ≤ 4 → (pre.flatMap fun q => lq (·.a) (·.c) (sortI (edX R)) (rcsF b q)).length ≤ 1904 := fun pre h => by
    have := flat_len (f := fun q => lq (·.a) (·.c) (sortI (edX R)) (rcsF b q)) (m := 476) (xs := pre) fun q _ => lq_len _ _ e1 (rcsF_len hb q)
    omega
  have yl : ∀ pre : List Int, pre.length ≤ 4 → (pre.flatMap fun q => lq (·.b) (·.d) (sortI (edY R)) (rcsF b q)).length ≤ 1904 := fun pre h => by
    have := flat_len (f := fun q => lq (·.b) (·.d) (sortI (edY R)) (rcsF b q)) (m := 476) (xs := pre) fun q _ => lq_len _ _ e2 (rcsF_len hb q)
    omega
  have r4 : (rng 0 4).length = 4 := rfl
  refine fnV_ex ?_
  refine seq_ex (P := fun s => s = ⟨[.val (rmD R), .val (rcsD b), .val c, .no, .no, .no, .no, .val (.list ((sortI (edX R)).map PyData.int)), .val (.list ((sortI (edY R)).map PyData.int)), .no, .no, .no, .no], none⟩) (ex_of (sAsg_ev (eFn_ev rfl rfl (edges_ev R hR)) rfl) rfl) ?_
  rintro _ rfl
  refine seq_ex (P := fun s => s = ⟨[.val (rmD R), .val (rcsD b), .val c, .val (.int (frm b)), .no, .no, .no, .val (.list ((sortI (edX R)).map PyData.int)), .val (.list ((sortI (edY R)).map PyData.int)), .no, .no, .no, .no], none⟩) (ex_of (sSet_ev (eFn_ev rfl rfl (frame_of_ev b hb))) rfl) ?_
  rintro _ rfl
  refine seq_ex (P := fun s => s = ⟨[.val (rmD R), .val (rcsD b), .val c, .val (.int (frm b)), .own (.list ((es.map (·.x)).map PyData.int)), .no, .no, .val (.list ((sortI (edX R)).map PyData.int)), .val (.list ((sortI (edY R)).map PyData.int)), .no, .no, .no, .no], none⟩) (ex_of (sSetF_ev (map_ev es sdD (fun s => .int s.x) (s1 := ⟨[.val (rmD R), .val (rcsD b), .val c, .val (.int (frm b)), .no, .no, .no, .val (.list ((sortI (edX R)).map PyData.int)), .val (.list ((sortI (edY R)).map PyData.int)), .no, .no, .no, .no], none⟩) (iterS_ev rfl hc) rfl rfl (fun s _ => ⟨_, rfl, rfl, rfl⟩) (by omega)) (by simp)) (by simp only [List.map_map]; rfl)) ?_
  rintro _ rfl
  refine seq_ex (P := fun s => s = ⟨[.val (rmD R), .val (rcsD b), .val c, .val (.int (frm b)), .own (.list ((es.map (·.x)).map PyData.int)), .own (.list ((es.map (·.y)).map PyData.int)), .no, .val (.list ((sortI (edX R)).map PyData.int)), .val (.list ((sortI (edY R)).map PyData.int)), .no, .no, .no, .no], none⟩) (ex_of (sSetF_ev (map_ev es sdD (fun s => .int s.y) (s1 := ⟨[.val (rmD R), .val (rcsD b), .val c, .val (.int (frm b)), .own (.list ((es.map (·.x)).map PyData.int)), .no, .no, .val (.list ((sortI (edX R)).map PyData.int)), .val (.list ((sortI (edY R)).map PyData.int)), .no, .no, .no, .no], none⟩) (iterS_ev rfl hc) rfl rfl (fun s _ => ⟨_, rfl, rfl, rfl⟩) (by omega)) (by simp)) (by simp only [List.map_map]; rfl)) ?_
  rintro _ rfl
  refine seq_ex (for_pre (rng 0 4) PyData.int (fun pre s => ∃ c6 c9, s = ⟨[.val (rmD R), .val (rcsD b), .val c, .val (.int (frm b)), .own (.list ((es.map (·.x) ++ pre.flatMap fun q => lq (·.a) (·.c) (sortI (edX R)) (rcsF b q)).map PyData.int)), .own (.list ((es.map (·.y) ++ pre.flatMap fun q => lq (·.b) (·.d) (sortI (edY R)) (rcsF b q)).map PyData.int)), c6, .val (.list ((sortI (edX R)).map PyData.int)), .val (.list ((sortI (edY R)).map PyData.int)), c9, .no, .no, .no], none⟩) (range1_ev rfl (by omega)) ⟨.no, .no, by simp only [List.flatMap_nil, List.append_nil]⟩ ?_) ?_
  · rintro pre q suf _ hall ⟨c6, c9, rfl⟩
    have hp : pre.length < 4 := by have := congrArg List.length hall; rw [List.length_append, List.length_cons, r4] at this; omega
    have hq : 0 ≤ q ∧ q < 4 := mem_rng.mp (by rw [hall]; simp)
    have a1 := xl pre (by omega)
    have a2 := yl pre (by omega)
    have b1 := lq_len (·.a) (·.c) e1 (rcsF_len hb q)
    have b2 := lq_len (·.b) (·.d) e2 (rcsF_len hb q)
    refine ⟨_, _, rfl, .inl (sSeq_ev (s1 := ⟨[.val (rmD R), .val (rcsD b), .val c, .val (.int (frm b)), .own (.list ((es.map (·.x) ++ pre.flatMap fun q => lq (·.a) (·.c) (sortI (edX R)) (rcsF b q)).map PyData.int)), .own (.list ((es.map (·.y) ++ pre.flatMap fun q => lq (·.b) (·.d) (sortI (edY R)) (rcsF b q)).map PyData.int)), .val (.int q), .val (.list ((sortI (edX R)).map PyData.int)), .val (.list ((sortI (edY R)).map PyData.int)), .val (rcsD (rcsF b q)), .no, .no, .no], none⟩) ?_ (sSeq_ev (sExt_ev (ds := (es.map (·.x) ++ pre.flatMap fun q => lq (·.a) (·.c) (sortI (edX R)) (rcsF b q)).map PyData.int) rfl (line_comp _ _ _ _ _ _ _ _ _ 7 (sortI (edX R)) (rcsF b q) e1 (rcsF_len hb q) 0 2 (·.a) (·.c) (fun _ => rfl) (fun _ => rfl) rfl) ?_) (sExt_ev (ds := (es.map (·.y) ++ pre.flatMap fun q => lq (·.b) (·.d) (sortI (edY R)) (rcsF b q)).map PyData.int) rfl (line_comp _ _ _ _ _ _ _ _ _ 8 (sortI (edY R)) (rcsF b q) e2 (rcsF_len hb q) 1 3 (·.b) (·.d) (fun _ => rfl) (fun _ => rfl) rfl) ?_))), .val (.int q), .val (rcsD (rcsF b q)), ?_⟩
    · obtain ⟨t1, t2⟩ := turned_by_ev b q (by omega) hbl
      refine sSet_ev (s1 := ⟨[.val (rmD R), .val (rcsD b), .val c, .val (.int (frm b)), .own (.list ((es.map (·.x) ++ pre.flatMap fun q => lq (·.a) (·.c) (sortI (edX R)) (rcsF b q)).map PyData.int)), .own (.list ((es.map (·.y) ++ pre.flatMap fun q => lq (·.b) (·.d) (sortI (edY R)) (rcsF b q)).map PyData.int)), .val (.int q), .val (.list ((sortI (edX R)).map PyData.int)), .val (.list ((sortI (edY R)).map PyData.int)), c9, .no, .no, .no], none⟩) (eBin_ev (y := .tuple [rcD ⟨-frm b, -frm b, frm b, frm b⟩]) (eFn_ev (xs := [rcsD b, .int q]) rfl rfl t1) rfl ?_)
      rw [addT_ev _ _ (by rw [List.length_map, t2]; have := hb.2.1; simp; omega)]
      unfold rcsF rcsD
      rw [List.map_append]
      rfl
    · simp only [List.length_append, List.length_map]
      omega
    · simp only [List.length_append, List.length_map]
      omega
    · simp only [← List.map_append, List.append_assoc, List.flatMap_append, List.flatMap_cons, List.flatMap_nil, List.append_nil]
      rfl
  · rintro _ ⟨c6, c9, rfl⟩
    have a1 := xl (rng 0 4) (by rw [r4]; omega)
    have a2 := yl (rng 0 4) (by rw [r4]; omega)
    refine ex_of (sFrz_ev rfl (sFrz_ev rfl (sRet_ev (eTup_ev (aCons_ev (eUn_ev rfl (sortI_ev (lnX R b es) ?_)) (aOne_ev (eUn_ev rfl (sortI_ev (lnY R b es) ?_)))) (by simp))))) rfl
    · unfold lnX
      rw [List.length_append, List.length_map]
      omega
    · unfold lnY
      rw [List.length_append, List.length_map]
      omega
theorem isi_seq {c : D} {es : List Sd} (hc : seqD c = some (es.map sdD)) (h : c = .list (es.map sdD) ∨ c = .tuple (es.map sdD)) : isi2D .list .tuple c = some (.bool true) := by
  rcases h with rfl | rfl <;> rfl
theorem LX_len {R : Rm} {b : List Rc} (hR : okR R) (hb : okB b) (es : List Sd) : (LX R b es).length ≤ es.length + 1904 ∧ (LY R b es).length ≤ es.length + 1904 := by
  have e1 : (sortI (edX R)).length ≤ 34 := Nat.le_trans (sortI_len _) (edX_len hR)
  have e2 : (sortI (edY R)).length ≤ 34 := Nat.le_trans (sortI_len _) (edY_len hR)
  have r4 : (rng 0 4).length = 4 := rfl
  constructor
  · refine Nat.le_trans (sortI_len _) ?_
    unfold lnX
    rw [List.length_append, List.length_map]
    have := flat_len (f := fun q => lq (·.a) (·.c) (sortI (edX R)) (rcsF b q)) (m := 476) (xs := rng 0 4) fun q _ => lq_len _ _ e1 (rcsF_len hb q)
    omega
  · refine Nat.le_trans (sortI_len _) ?_
    unfold lnY
    rw [List.length_append, List.length_map]
    have := flat_len (f := fun q => lq (·.b) (·.d) (sortI (edY R)) (rcsF b q)) (m := 476) (xs := rng 0 4) fun q _ => lq_len _ _ e2 (rcsF_len hb q)
    omega
end Fx

namespace Fx
open PySem PySem.Spec L2
theorem rows_nodup {F : Int → Int → Int → Bool} {ys xs : List Int} (hx : xs.Pairwise (· < ·)) (hy : ys.Pairwise (· < ·)) : (rowX F ys xs).Nodup := by
  unfold rowX List.Nodup
  rw [List.pairwise_flatMap]
  refine ⟨fun x _ => ?_, List.Pairwise.imp (fun {a c} h k hk l hl => ?_) hx⟩
  · unfold rowY
    rw [List.pairwise_flatMap]
    refine ⟨fun y _ => ?_, List.Pairwise.imp (fun {a c} h k hk l hl => ?_) hy⟩
    · unfold rowQ
      rw [List.pairwise_map]
      refine List.Pairwise.imp (fun {a c} h e => ?_) (List.Pairwise.filter _ (rng_pw 0 4))
      simp at e
      omega
    · obtain ⟨_, _, _, rfl⟩ := (mem_rowQ F).mp hk
      obtain ⟨_, _, _, rfl⟩ := (mem_rowQ F).mp hl
      intro e
      simp at e
      omega
  · obtain ⟨_, _, _, _, _, rfl⟩ := (mem_rowY F).mp hk
    obtain ⟨_, _, _, _, _, rfl⟩ := (mem_rowY F).mp hl
    intro e
    simp at e
    omega
/-- the corners, as rows -/
def cnr (R : Rm) (b : List Rc) (es : List Sd) : List (List Int) := rowX (fun x y q => std R b ⟨x, y, q⟩) (LY R b es) (LX R b es)
def onL (R : Rm) (b : List Rc) (es : List Sd) (k : List Int) : Bool := decide (k.getD 0 0 ∈ LX R b es) && decide (k.getD 1 0 ∈ LY R b es)
section
variable {R : Rm} {b : List Rc} {F : Int → Int → Int → Bool}
theorem cnr_eq (hb : okB b) (es : List Sd) (hF : ∀ x y q, 0 ≤ q ∧ q ≤ 3 → F x y q = std R b ⟨x, y, q⟩) : cnr R b es = (rowX F (rng (0 - frm b) (R.h + frm b + 1)) (rng (0 - frm b) (R.w + frm b + 1))).filter (onL R b es) := by
  refine List.Perm.eq_of_pairwise (le := fun a b => leR a b = true) (fun a b _ _ h1 h2 => leR_anti a b h1 h2) (rows_sorted (sortI_pw _) (sortI_pw _)) ((rows_sorted (rng_pw _ _) (rng_pw _ _)).filter _) ?_
  refine (List.perm_ext_iff_of_nodup (rows_nodup (sortI_pw _) (sortI_pw _)) ((rows_nodup (rng_pw _ _) (rng_pw _ _)).filter _)).mpr fun k => ?_
  rw [List.mem_filter]
  constructor
  · intro h
    obtain ⟨x, hx, y, hy, q, hq, hf, rfl⟩ := (mem_rowX _).mp h
    have hq' : 0 ≤ q ∧ q ≤ 3 := by rw [mem_rng] at hq; omega
    have m := free_mem (R := R) (F := F) hb hF (x := x) (y := y) hq'
    rw [hf, decide_eq_true_eq] at m
    refine ⟨m, ?_⟩
    unfold onL
    rw [Bool.and_eq_true, decide_eq_true_eq, decide_eq_true_eq]
    exact ⟨hx, hy⟩
  · rintro ⟨h, o⟩
    obtain ⟨x, hx, y, hy, q, hq, hf, rfl⟩ := (mem_rowX _).mp h
    have hq' : 0 ≤ q ∧ q ≤ 3 := by rw [mem_rng] at hq; omega
    unfold onL at o
    rw [Bool.and_eq_true, decide_eq_true_eq, decide_eq_true_eq] at o
    exact (mem_rowX _).mpr ⟨x, o.1, y, o.2, q, hq, by rw [← hF _ _ _ hq']; exact hf, rfl⟩
end
/-! ### between the lines nothing changes -/
theorem fit_say {R : Rm} {r : Rc} : fit R r = true ↔ (0 ≤ r.a ∧ 0 ≤ r.b ∧ r.c ≤ R.w ∧ r.d ≤ R.h) ∧ ∀ s ∈ R.bl, ¬ (r.a < s.c ∧ s.a < r.c ∧ r.b < s.d ∧ s.b < r.d) := by
  unfold fit out
  rw [Bool.and_eq_true, Bool.not_eq_true', Bool.not_eq_true', List.any_eq_false]
  constructor
  · rintro ⟨h1, h2⟩
    simp only [Bool.or_eq_false_iff, decide_eq_false_iff_not] at h1
    refine ⟨by omega, fun s hs z => h2 s hs ?_⟩
    unfold ov
    simp only [Bool.and_eq_true, decide_eq_true_eq]
    exact z
  · rintro ⟨h1, h2⟩
    refine ⟨by simp only [Bool.or_eq_false_iff, decide_eq_false_iff_not]; omega, fun s hs z => h2 s hs ?_⟩
    unfold ov at z
    simp only [Bool.and_eq_true, decide_eq_true_eq] at z
    exact z
theorem std_say {R : Rm} {b : List Rc} {x y q : Int} : std R b ⟨x, y, q⟩ = true ↔ ∀ r ∈ turnB b q, fit R (shift x y r) = true := by
  unfold std plc
  rw [List.all_map, List.all_eq_true]
  rfl
theorem edX_mem {R : Rm} : 0 ∈ edX R ∧ R.w ∈ edX R ∧ ∀ s ∈ R.bl, s.a ∈ edX R ∧ s.c ∈ edX R := by
  unfold edX
  refine ⟨by simp, by simp, fun s hs => ?_⟩
  constructor <;> refine List.mem_append_right _ (List.mem_flatMap.mpr ⟨s, hs, by simp⟩)
theorem edY_mem {R : Rm} : 0 ∈ edY R ∧ R.h ∈ edY R ∧ ∀ s ∈ R.bl, s.b ∈ edY R ∧ s.d ∈ edY R := by
  unfold edY
  refine ⟨by simp, by simp, fun s hs => ?_⟩
  constructor <;> refine List.mem_append_right _ (List.mem_flatMap.mpr ⟨s, hs, by simp⟩)
section
variable {R : Rm} {b : List Rc} {es : List Sd} {x y q : Int}
theorem onX (hq : 0 ≤ q ∧ q < 4) {r : Rc} (hr : r ∈ turnB b q) {p : Int} (hp : p ∈ edX R) : p - r.a ∈ LX R b es ∧ p - r.c ∈ LX R b es :=
  ⟨mem_LX.mpr (.inr ⟨q, hq, p, hp, r, List.mem_append_left _ hr, .inl rfl⟩), mem_LX.mpr (.inr ⟨q, hq, p, hp, r, List.mem_append_left _ hr, .inr rfl⟩)⟩
theorem onY (hq : 0 ≤ q ∧ q < 4) {r : Rc} (hr : r ∈ turnB b q) {p : Int} (hp : p ∈ edY R) : p - r.b ∈ LY R b es ∧ p - r.d ∈ LY R b es :=
  ⟨mem_LY.mpr (.inr ⟨q, hq, p, hp, r, List.mem_append_left _ hr, .inl rfl⟩), mem_LY.mpr (.inr ⟨q, hq, p, hp, r, List.mem_append_left _ hr, .inr rfl⟩)⟩
theorem left1 (hq : 0 ≤ q ∧ q < 4) (h : std R b ⟨x, y, q⟩ = true) (hx : x ∉ LX R b es) : std R b ⟨x - 1, y, q⟩ = true := by
  rw [std_say] at *
  intro r hr
  have f := h r hr
  rw [fit_say] at *
  unfold shift at *
  dsimp only at *
  obtain ⟨⟨f1, f2, f3, f4⟩, f5⟩ := f
  have n0 : r.a + x ≠ 0 := fun z => hx (by
    have := (onX (R := R) (es := es) hq hr edX_mem.1).1
    have e : 0 - r.a = x := by omega
    rwa [e] at this)
  refine ⟨by omega, fun s hs z => f5 s hs ?_⟩
  have n1 : r.a + x ≠ s.c := fun z => hx (by
    have := (onX (R := R) (es := es) hq hr (edX_mem.2.2 s hs).2).1
    have e : s.c - r.a = x := by omega
    rwa [e] at this)
  omega
theorem down1 (hq : 0 ≤ q ∧ q < 4) (h : std R b ⟨x, y, q⟩ = true) (hy : y ∉ LY R b es) : std R b ⟨x, y - 1, q⟩ = true := by
  rw [std_say] at *
  intro r hr
  have f := h r hr
  rw [fit_say] at *
  unfold shift at *
  dsimp only at *
  obtain ⟨⟨f1, f2, f3, f4⟩, f5⟩ := f
  have n0 : r.b + y ≠ 0 := fun z => hy (by
    have := (onY (R := R) (es := es) hq hr edY_mem.1).1
    have e : 0 - r.b = y := by omega
    rwa [e] at this)
  refine ⟨by omega, fun s hs z => f5 s hs ?_⟩
  have n1 : r.b + y ≠ s.d := fun z => hy (by
    have := (onY (R := R) (es := es) hq hr (edY_mem.2.2 s hs).2).1
    have e : s.d - r.b = y := by omega
    rwa [e] at this)
  omega
end
theorem to_lineX {R : Rm} {b : List Rc} (hb : okB b) (es : List Sd) {y q : Int} (hq : 0 ≤ q ∧ q < 4) : ∀ (n : Nat) (x : Int), x + frm b ≤ n → std R b ⟨x, y, q⟩ = true → ∃ x' ∈ LX R b es, std R b ⟨x', y, q⟩ = true
  | 0, x, hn, h => by
    by_cases hx : x ∈ LX R b es
    · exact ⟨x, hx, h⟩
    · have := (std_range hb (left1 hq h hx)).1
      have := (std_range hb h).1
      omega
  | n + 1, x, hn, h => by
    by_cases hx : x ∈ LX R b es
    · exact ⟨x, hx, h⟩
    · exact to_lineX hb es hq n (x - 1) (by omega) (left1 hq h hx)
theorem to_lineY {R : Rm} {b : List Rc} (hb : okB b) (es : List Sd) {x q : Int} (hq : 0 ≤ q ∧ q < 4) : ∀ (n : Nat) (y : Int), y + frm b ≤ n → std R b ⟨x, y, q⟩ = true → ∃ y' ∈ LY R b es, std R b ⟨x, y', q⟩ = true
  | 0, y, hn, h => by
    by_cases hy : y ∈ LY R b es
    · exact ⟨y, hy, h⟩
    · have := (std_range hb (down1 hq h hy)).2.2.1
      omega
  | n + 1, y, hn, h => by
    by_cases hy : y ∈ LY R b es
    · exact ⟨y, hy, h⟩
    · exact to_lineY hb es hq n (y - 1) (by omega) (down1 hq h hy)
theorem some_corner {R : Rm} {b : List Rc} (hb : okB b) (es : List Sd) {x y q : Int} (hq : 0 ≤ q ∧ q < 4) (h : std R b ⟨x, y, q⟩ = true) : cnr R b es ≠ [] := by
  obtain ⟨x', hx, h1⟩ := to_lineX hb es hq (x + frm b).toNat x (by have := (std_range hb h).1; omega) h
  obtain ⟨y', hy, h2⟩ := to_lineY hb es hq (y + frm b).toNat y (by have := (std_range hb h1).2.2.1; omega) h1
  have m : [x', y', q] ∈ cnr R b es := (mem_rowX _).mpr ⟨x', hx, y', hy, q, mem_rng.mpr hq, h2, rfl⟩
  intro e
  rw [e] at m
  cases m
/-! ### the law -/
theorem inI_ev (ns : List Int) (n : Int) : inD (.int n) (.list (ns.map PyData.int)) = some (.bool (decide (n ∈ ns))) := by
  unfold inD
  show (if SeqAt.shaped (.int n) = true ∧ SeqAt.shaped (.list (ns.map PyData.int)) = true then _ else _) = _
  rw [if_pos ⟨rfl, shaped_ints ns⟩]
  congr 2
  induction ns with
  | nil => rfl
  | cons m ns ih =>
    rw [List.map_cons, List.any_cons, ih]
    show ((m == n) || _) = _
    by_cases h : m = n
    · simp [h]
    · have h' : ¬ n = m := fun z => h z.symm
      simp [h, h']
theorem list2_eq (a b : List Int) : neD (.tuple [.list (a.map PyData.int), .list (b.map PyData.int)]) (.tuple [.list (a.map PyData.int), .list (b.map PyData.int)]) = some (.bool false) := by
  have c1 := shaped_ints a
  have c2 := shaped_ints b
  have sh : SeqAt.shaped (.tuple [.list (a.map PyData.int), .list (b.map PyData.int)]) = true := by
    unfold SeqAt.shaped at *
    simp only [Bool.and_eq_true, decide_eq_true_eq] at *
    refine ⟨by simp [PyData.canLay0, PyData.canLayAll0, canLay_ints], ?_⟩
    have d : ∀ k : List Int, PyData.depthAll (k.map PyData.int) = 0 := fun k => by
      induction k with
      | nil => rfl
      | cons x k ih => rw [List.map_cons, PyData.depthAll, ih]; rfl
    simp [PyData.depth, PyData.depthAll, d]
  unfold neD
  rw [if_pos ⟨sh, sh⟩]
  show some (PyData.bool (!(PyData.eqvAll (a.map PyData.int) (a.map PyData.int) && (PyData.eqvAll (b.map PyData.int) (b.map PyData.int) && true)))) = _
  rw [eqv_ints, eqv_ints]
  simp
end Fx
namespace Fx
open PySem PySem.Spec L2
theorem mix_same {l : List C} {t t' : Option Tw} (vs : List Nat) : (⟨l, t⟩ : S).mix ⟨l, t'⟩ vs = ⟨l, t'⟩ := by
  unfold S.mix
  congr 1
  refine List.ext_getElem (by simp) fun j h1 h2 => ?_
  rw [List.getElem_mapIdx]
  split
  · rw [List.getD_eq_getElem?_getD, List.getElem?_eq_getElem h2]
    rfl
  · rfl
/-- a comprehension whose steps draw -/
theorem compT_ev {α β : Type} {fi : Fa} {g : Fg} {f : Fe} {vs : List Nat} {l : List C} {t : Tw} {s : S} {xs : List α} (enc : α → D) (out : β → D) (Good : β → Prop) (ot : okT t) (hl : xs.length ≤ 100000) (hi : fi s = some (xs.map enc, ⟨l, some t⟩)) (hv : noOwn ⟨l, some t⟩ vs = true) (hw : (⟨l, some t⟩ : S).wipe vs = ⟨l, some t⟩) (h : ∀ x ∈ xs, ∀ t, okT t → ∃ lx o t', g (enc x) ⟨l, some t⟩ = some ⟨lx, some t⟩ ∧ f ⟨lx, some t⟩ = some (out o, ⟨lx, some t'⟩) ∧ Good o ∧ okT t' ∧ (⟨lx, some t'⟩ : S).wipe vs = ⟨l, some t'⟩) :
    ∃ (os : List β) (t' : Tw), eComp fi g (eC (.bool true)) vs (pEmit f) s = some (.list (os.map out), ⟨l, some t'⟩) ∧ os.length = xs.length ∧ (∀ o ∈ os, Good o) ∧ okT t' := by
  obtain ⟨os, t3, k1, k2, k3, k4⟩ := clT_ev (vs := vs) enc out Good (xs := xs) (acc := []) (t := t) ot (by simpa using hl) h
  refine ⟨os, t3, ?_, k2, k3, k4⟩
  unfold eComp
  rw [hi, Option.bind_some]
  dsimp only
  rw [if_pos hv, hw, k1, Option.map_some]
  dsimp only
  rw [mix_same, List.nil_append]
end Fx
namespace Fx
open PySem PySem.Spec L2
end Fx
namespace Fx
open PySem PySem.Spec L2
theorem map_ev0 {α : Type} {fi : Fa} {g : Fg} {f : Fe} {vs : List Nat} {s : S} {l : List C} {t : Option Tw} (xs : List α) (enc : α → D) (out : α → D) (h1 : fi s = some (xs.map enc, ⟨l, t⟩)) (hv : noOwn ⟨l, t⟩ vs = true) (hw : (⟨l, t⟩ : S).wipe vs = ⟨l, t⟩) (hs : ∀ x ∈ xs, ∃ sx, g (enc x) ⟨l, t⟩ = some sx ∧ f sx = some (out x, sx) ∧ sx.wipe vs = ⟨l, t⟩) (hl : xs.length ≤ 100000) :
    eComp fi g (eC (.bool true)) vs (pEmit f) s = some (.list (xs.map out), ⟨l, t⟩) :=
  map_ev xs enc out h1 hv (by rw [hw]; exact mix_same vs) (by rw [hw]; exact hs) hl
theorem comp_ev0 {α : Type} {fi : Fa} {g : Fg} {ft f : Fe} {vs : List Nat} {s : S} {l : List C} {t : Option Tw} (xs : List α) (enc : α → D) (p : α → Bool) (out : α → D) (h1 : fi s = some (xs.map enc, ⟨l, t⟩)) (hv : noOwn ⟨l, t⟩ vs = true) (hw : (⟨l, t⟩ : S).wipe vs = ⟨l, t⟩) (hs : ∀ x ∈ xs, ∃ sx, g (enc x) ⟨l, t⟩ = some sx ∧ ft sx = some (.bool (p x), sx) ∧ (p x = true → f sx = some (out x, sx)) ∧ sx.wipe vs = ⟨l, t⟩) (hl : xs.length ≤ 100000) :
    eComp fi g ft vs (pEmit f) s = some (.list ((xs.filter p).map out), ⟨l, t⟩) :=
  comp_ev xs enc p out h1 hv (by rw [hw]; exact mix_same vs) (by rw [hw]; exact hs) hl
section
variable (R : Rm) (b : List Rc) (t : Tw) (c2 c3 : C)
end
end Fx
namespace Fx
open PySem PySem.Spec L2
theorem eIf_ev {c f1 f2 : Fe} {s s1 : S} {p : Bool} {r : Option (D × S)} (h : c s = some (.bool p, s1)) (ht : p = true → f1 s1 = r) (hf : p = false → f2 s1 = r) : eIf c f1 f2 s = r := by
  unfold eIf
  rw [h]
  cases p with
  | true => exact ht rfl
  | false => exact hf rfl
theorem eFnE_ev {n : Nat} {g : List D → Option D} {fa : Fa} {s s1 : S} {xs : List D} {d : D} (h1 : fa s = some (xs, s1)) (hn : xs.length = n) (h3 : g (xs ++ [.tuple []]) = some d) : eFnE n g fa s = some (d, s1) := by
  unfold eFnE
  rw [h1, Option.bind_some]
  dsimp only
  rw [if_pos hn, h3]
  rfl
theorem ne_nil_ev (ks : List (List Int)) : neD (.list (ks.map kD)) (.list []) = some (.bool (!decide (ks = []))) := by
  unfold neD
  rw [if_pos ⟨shaped_rows ks, by decide +kernel⟩]
  cases ks <;> rfl
end Fx


namespace Fx
open PySem PySem.Spec L2
/-! ### searches breadth first -/
section
variable {α : Type} [DecidableEq α]
inductive Rch (nb : α → List α) (a : α) : α → Prop
  | refl : Rch nb a a
  | step {x y : α} : Rch nb a x → y ∈ nb x → Rch nb a y
def addAll (o ts : List α) : List α := ts.foldl (fun o t => if t ∈ o then o else o ++ [t]) o
theorem mem_addAll : ∀ {ts o : List α} {x : α}, x ∈ addAll o ts ↔ x ∈ o ∨ x ∈ ts
  | [], o, x => by simp [addAll]
  | t :: ts, o, x => by
    show x ∈ addAll (if t ∈ o then o else o ++ [t]) ts ↔ _
    rw [mem_addAll]
    by_cases h : t ∈ o
    · rw [if_pos h, List.mem_cons]
      constructor
      · rintro (z | z)
        · exact .inl z
        · exact .inr (.inr z)
      · rintro (z | rfl | z)
        · exact .inl z
        · exact .inl h
        · exact .inr z
    · rw [if_neg h, List.mem_append, List.mem_singleton, List.mem_cons, or_assoc]
theorem addAll_nodup : ∀ {ts o : List α}, o.Nodup → (addAll o ts).Nodup
  | [], o, h => h
  | t :: ts, o, h => by
    show (addAll (if t ∈ o then o else o ++ [t]) ts).Nodup
    refine addAll_nodup ?_
    by_cases m : t ∈ o
    · rw [if_pos m]; exact h
    · rw [if_neg m]
      refine List.nodup_append.mpr ⟨h, by simp, fun x hx y hy => ?_⟩
      rw [List.mem_singleton] at hy
      rintro rfl
      exact m (hy ▸ hx)
theorem addAll_pre : ∀ (ts o : List α), ∃ r, addAll o ts = o ++ r
  | [], o => ⟨[], by simp [addAll]⟩
  | t :: ts, o => by
    obtain ⟨r, e⟩ := addAll_pre ts (if t ∈ o then o else o ++ [t])
    show ∃ r, addAll (if t ∈ o then o else o ++ [t]) ts = o ++ r
    rw [e]
    split
    · exact ⟨r, rfl⟩
    · exact ⟨[t] ++ r, by simp⟩
theorem nodup_len {l m : List α} (n : l.Nodup) (h : ∀ x ∈ l, x ∈ m) : l.length ≤ m.length := by
  induction l generalizing m with
  | nil => exact Nat.zero_le _
  | cons a l ih =>
    obtain ⟨n1, n2⟩ := List.nodup_cons.mp n
    have ha := h a List.mem_cons_self
    have := ih (m := m.erase a) n2 fun x hx => (List.mem_erase_of_ne (fun e => n1 (by rw [← e]; exact hx))).mpr (h x (List.mem_cons_of_mem _ hx))
    rw [List.length_erase_of_mem ha] at this
    have : 0 < m.length := List.length_pos_of_mem ha
    rw [List.length_cons]
    omega
/-- the loop: I o at s says what the state s holds -/
theorem bfs_loop (nb : α → List α) (a : α) (stop : α → Bool) (I : List α → Nat → S → Prop) (univ : List α) (J : S → Prop) {c : Fe} {F : Fs} {d : D}
    (hu : ∀ x, Rch nb a x → x ∈ univ)
    (hc : ∀ o k s, I o k s → c s = some (.bool (decide (k < o.length)), s))
    (hF : ∀ o k s h, I o k s → o[k]? = some h → Rch nb a h → (∀ x ∈ o, Rch nb a x) → o.Nodup → ∃ s', (stop h = true → F s = some (.ret d, s') ∧ J s') ∧ (stop h = false → F s = some (.next, s') ∧ I (addAll o (nb h)) (k + 1) s')) :
    ∀ (n : Nat) (o : List α) (k : Nat) (s : S) (fuel : Nat), univ.length - k ≤ n → n < fuel → I o k s → a ∈ o → k ≤ o.length → o.Nodup → (∀ x ∈ o, Rch nb a x) → (∀ i h, i < k → o[i]? = some h → stop h = false ∧ ∀ y ∈ nb h, y ∈ o) →
      (∃ s', (∃ g, Rch nb a g ∧ stop g = true) ∧ whileF c F fuel s = some (.ret d, s') ∧ J s') ∨ ∃ s' o', (∀ g, Rch nb a g → stop g = false) ∧ whileF c F fuel s = some (.next, s') ∧ I o' o'.length s' ∧ ∀ x, x ∈ o' ↔ Rch nb a x := by
  intro n
  induction n with
  | zero =>
    intro o k s fuel hn hf hI ha hk nd hr cl
    have ol := nodup_len nd fun x hx => hu x (hr x hx)
    have e : k = o.length := by omega
    subst e
    obtain ⟨f, rfl⟩ : ∃ f, fuel = f + 1 := ⟨fuel - 1, by omega⟩
    have hstop := hc o o.length s hI
    rw [decide_eq_false (by omega)] at hstop
    have comp : ∀ x, Rch nb a x → x ∈ o := fun x hx => by
      induction hx with
      | refl => exact ha
      | step _ hy ih =>
        obtain ⟨i, hi, e⟩ := List.getElem_of_mem ih
        exact (cl i _ hi (by rw [List.getElem?_eq_getElem hi, e])).2 _ hy
    refine .inr ⟨s, o, fun g hg => ?_, while_stop hstop, hI, fun x => ⟨hr x, comp x⟩⟩
    obtain ⟨i, hi, e⟩ := List.getElem_of_mem (comp g hg)
    exact (cl i _ hi (by rw [List.getElem?_eq_getElem hi, e])).1
  | succ n ih =>
    intro o k s fuel hn hf hI ha hk nd hr cl
    obtain ⟨f, rfl⟩ : ∃ f, fuel = f + 1 := ⟨fuel - 1, by omega⟩
    have comp : k = o.length → ∀ x, Rch nb a x → x ∈ o := fun ek x hx => by
      induction hx with
      | refl => exact ha
      | step _ hy ih =>
        obtain ⟨i, hi, e⟩ := List.getElem_of_mem ih
        exact (cl i _ (by omega) (by rw [List.getElem?_eq_getElem hi, e])).2 _ hy
    by_cases hlt : k < o.length
    · have hgo := hc o k s hI
      rw [decide_eq_true hlt] at hgo
      have eh := List.getElem?_eq_getElem hlt
      have hrh := hr _ (List.getElem_mem hlt)
      obtain ⟨s', h1, h2⟩ := hF o k s o[k] hI eh hrh hr nd
      cases hs : stop o[k] with
      | true =>
        refine .inl ⟨s', ⟨o[k], hrh, hs⟩, ?_, (h1 hs).2⟩
        conv => lhs; unfold whileF
        rw [hgo, Option.bind_some]
        dsimp only
        rw [(h1 hs).1]
      | false =>
        obtain ⟨h3, h4⟩ := h2 hs
        obtain ⟨r, er⟩ := addAll_pre (nb o[k]) o
        rw [while_go hgo h3]
        refine ih (addAll o (nb o[k])) (k + 1) s' f (by omega) (by omega) h4 (mem_addAll.mpr (.inl ha)) (by rw [er, List.length_append]; omega) (addAll_nodup nd) (fun x hx => ?_) (fun i h hi e => ?_)
        · rcases mem_addAll.mp hx with z | z
          · exact hr x z
          · exact .step hrh z
        · have hio : i < o.length := by omega
          rw [er, List.getElem?_append_left hio] at e
          by_cases hik : i < k
          · obtain ⟨q1, q2⟩ := cl i h hik e
            exact ⟨q1, fun y hy => mem_addAll.mpr (.inl (q2 y hy))⟩
          · have : i = k := by omega
            subst this
            rw [eh] at e
            cases e
            exact ⟨hs, fun y hy => mem_addAll.mpr (.inr hy)⟩
    · have ek : k = o.length := by omega
      have hstop := hc o k s hI
      rw [decide_eq_false hlt] at hstop
      refine .inr ⟨s, o, fun g hg => ?_, while_stop hstop, ek ▸ hI, fun x => ⟨hr x, comp ek x⟩⟩
      obtain ⟨i, hi, e⟩ := List.getElem_of_mem (comp ek g hg)
      exact (cl i _ (by omega) (by rw [List.getElem?_eq_getElem hi, e])).1
end
end Fx
namespace Fx
open PySem PySem.Spec L2
/-! ### neighbours on the lines -/
def nxt (X : List Int) (x : Int) : List Int := (X.take (X.idxOf x)).drop (X.idxOf x - 1) ++ (X.drop (X.idxOf x + 1)).take 1
theorem mem_nxt {X : List Int} {x n : Int} : n ∈ nxt X x ↔ (∃ h : X.idxOf x - 1 < X.length, 0 < X.idxOf x ∧ X.idxOf x ≤ X.length ∧ n = X[X.idxOf x - 1]) ∨ ∃ h : X.idxOf x + 1 < X.length, n = X[X.idxOf x + 1] := by
  unfold nxt
  generalize X.idxOf x = a
  rw [List.mem_append]
  refine or_congr ?_ ?_
  · constructor
    · intro h
      obtain ⟨i, hi, e⟩ := List.getElem_of_mem h
      rw [List.length_drop, List.length_take] at hi
      have ha : 0 < a := by omega
      have e0 : i = 0 := by omega
      subst e0
      rw [List.getElem_drop, List.getElem_take] at e
      refine ⟨by omega, ha, by omega, ?_⟩
      rw [← e]
      rfl
    · rintro ⟨h, ha, hl, rfl⟩
      refine List.mem_iff_getElem.mpr ⟨0, by rw [List.length_drop, List.length_take]; omega, ?_⟩
      rw [List.getElem_drop, List.getElem_take]
      rfl
  · constructor
    · intro h
      obtain ⟨i, hi, e⟩ := List.getElem_of_mem h
      rw [List.length_take, List.length_drop] at hi
      have e0 : i = 0 := by omega
      subst e0
      rw [List.getElem_take, List.getElem_drop] at e
      exact ⟨by omega, by rw [← e]⟩
    · rintro ⟨h, rfl⟩
      refine List.mem_iff_getElem.mpr ⟨0, by rw [List.length_take, List.length_drop]; omega, ?_⟩
      rw [List.getElem_take, List.getElem_drop]
theorem nxt_sub {X : List Int} {x n : Int} (h : n ∈ nxt X x) : n ∈ X := by
  rcases mem_nxt.mp h with ⟨h1, _, _, rfl⟩ | ⟨h1, rfl⟩
  · exact List.getElem_mem _
  · exact List.getElem_mem _
theorem pw_get {X : List Int} (hp : X.Pairwise (· < ·)) {i j : Nat} (hi : i < X.length) (hj : j < X.length) (h : i < j) : X[i] < X[j] := (List.pairwise_iff_getElem.mp hp) i j hi hj h
theorem adj_nxt {X : List Int} (hp : X.Pairwise (· < ·)) {x n : Int} (hx : x ∈ X) (hn : n ∈ X) (ne : n ≠ x) (gap : ∀ m ∈ X, ¬ (n < m ∧ m < x) ∧ ¬ (x < m ∧ m < n)) : n ∈ nxt X x := by
  have ha : X.idxOf x < X.length := List.idxOf_lt_length_of_mem hx
  have ex : X[X.idxOf x] = x := List.getElem_idxOf ha
  obtain ⟨j, hj, ej⟩ := List.getElem_of_mem hn
  rw [mem_nxt]
  generalize hA : X.idxOf x = a at *
  rcases Nat.lt_trichotomy j a with h | h | h
  · left
    refine ⟨by omega, by omega, by omega, ?_⟩
    by_cases h2 : j = a - 1
    · rw [← ej]; congr 1
    · exfalso
      have l1 := pw_get hp hj (show a - 1 < X.length by omega) (by omega)
      have l2 := pw_get hp (show a - 1 < X.length by omega) ha (by omega)
      refine (gap X[a - 1] (List.getElem_mem _)).1 ⟨?_, ?_⟩
      · omega
      · omega
  · exfalso
    apply ne
    rw [← ej, ← ex]
    congr 1
  · right
    have h1 : a + 1 < X.length := by omega
    refine ⟨h1, ?_⟩
    by_cases h2 : j = a + 1
    · rw [← ej]; congr 1
    · exfalso
      have l1 := pw_get hp ha h1 (by omega)
      have l2 := pw_get hp h1 hj (by omega)
      refine (gap X[a + 1] (List.getElem_mem _)).2 ⟨?_, ?_⟩
      · omega
      · omega
/-! ### unit steps and lines -/
section
variable {R : Rm} {b : List Rc} {es : List Sd} {q : Int}
theorem leftTo (hq : 0 ≤ q ∧ q < 4) {y : Int} : ∀ (k : Nat) (x : Int), std R b ⟨x, y, q⟩ = true → (∀ m, x - k < m → m ≤ x → m ∉ LX R b es) → std R b ⟨x - k, y, q⟩ = true
  | 0, x, h, _ => by simpa using h
  | k + 1, x, h, hm => by
    have ih := leftTo hq k x h fun m h1 h2 => hm m (by omega) h2
    have := left1 (es := es) hq ih (hm (x - k) (by omega) (by omega))
    have e : x - ((k + 1 : Nat) : Int) = x - k - 1 := by omega
    rw [e]
    exact this
theorem downTo (hq : 0 ≤ q ∧ q < 4) {x : Int} : ∀ (k : Nat) (y : Int), std R b ⟨x, y, q⟩ = true → (∀ m, y - k < m → m ≤ y → m ∉ LY R b es) → std R b ⟨x, y - k, q⟩ = true
  | 0, y, h, _ => by simpa using h
  | k + 1, y, h, hm => by
    have ih := downTo hq k y h fun m h1 h2 => hm m (by omega) h2
    have := down1 (es := es) hq ih (hm (y - k) (by omega) (by omega))
    have e : y - ((k + 1 : Nat) : Int) = y - k - 1 := by omega
    rw [e]
    exact this
/-- the line that x falls back to -/
structure Pj (X : List Int) (x n : Int) : Prop where
  mem : n ∈ X
  le : n ≤ x
  gap : ∀ m, n < m → m ≤ x → m ∉ X
theorem pj_self {X : List Int} {x : Int} (h : x ∈ X) : Pj X x x := ⟨h, Int.le_refl _, fun m h1 h2 => by omega⟩
theorem pj_one {X : List Int} {x n m : Int} (h : Pj X x n) (g : Pj X x m) : n = m := by
  rcases Int.lt_trichotomy n m with z | z | z
  · exact absurd g.mem (h.gap m z g.le)
  · exact z
  · exact absurd h.mem (g.gap n z h.le)
theorem std_left (hq : 0 ≤ q ∧ q < 4) {x y n m : Int} (h : std R b ⟨x, y, q⟩ = true) (p : Pj (LX R b es) x n) (h1 : n ≤ m) (h2 : m ≤ x) : std R b ⟨m, y, q⟩ = true := by
  have := leftTo (es := es) hq (x - m).toNat x h fun k k1 k2 => p.gap k (by omega) k2
  have e : x - ((x - m).toNat : Int) = m := by omega
  rwa [e] at this
theorem std_down (hq : 0 ≤ q ∧ q < 4) {x y n m : Int} (h : std R b ⟨x, y, q⟩ = true) (p : Pj (LY R b es) y n) (h1 : n ≤ m) (h2 : m ≤ y) : std R b ⟨x, m, q⟩ = true := by
  have := downTo (es := es) hq (y - m).toNat y h fun k k1 k2 => p.gap k (by omega) k2
  have e : y - ((y - m).toNat : Int) = m := by omega
  rwa [e] at this
theorem pj_X (hb : okB b) (hq : 0 ≤ q ∧ q < 4) {y : Int} : ∀ (k : Nat) (x : Int), x + frm b ≤ k → std R b ⟨x, y, q⟩ = true → ∃ n, Pj (LX R b es) x n
  | 0, x, hk, h => by
    by_cases hx : x ∈ LX R b es
    · exact ⟨x, pj_self hx⟩
    · have := (std_range hb (left1 hq h hx)).1
      omega
  | k + 1, x, hk, h => by
    by_cases hx : x ∈ LX R b es
    · exact ⟨x, pj_self hx⟩
    · obtain ⟨n, p⟩ := pj_X hb hq k (x - 1) (by omega) (left1 hq h hx)
      have := p.le
      refine ⟨n, p.mem, by omega, fun m h1 h2 hm => ?_⟩
      by_cases e : m = x
      · exact hx (e ▸ hm)
      · exact p.gap m h1 (by omega) hm
theorem pj_Y (hb : okB b) (hq : 0 ≤ q ∧ q < 4) {x : Int} : ∀ (k : Nat) (y : Int), y + frm b ≤ k → std R b ⟨x, y, q⟩ = true → ∃ n, Pj (LY R b es) y n
  | 0, y, hk, h => by
    by_cases hy : y ∈ LY R b es
    · exact ⟨y, pj_self hy⟩
    · have := (std_range hb (down1 hq h hy)).2.2.1
      omega
  | k + 1, y, hk, h => by
    by_cases hy : y ∈ LY R b es
    · exact ⟨y, pj_self hy⟩
    · obtain ⟨n, p⟩ := pj_Y hb hq k (y - 1) (by omega) (down1 hq h hy)
      have := p.le
      refine ⟨n, p.mem, by omega, fun m h1 h2 hm => ?_⟩
      by_cases e : m = y
      · exact hy (e ▸ hm)
      · exact p.gap m h1 (by omega) hm
/-- unit steps -/
def nbU (R : Rm) (b : List Rc) (q : Int) (k : List Int) : List (List Int) := [[k.getD 0 0 + 1, k.getD 1 0], [k.getD 0 0 - 1, k.getD 1 0], [k.getD 0 0, k.getD 1 0 + 1], [k.getD 0 0, k.getD 1 0 - 1]].filter fun t => std R b ⟨t.getD 0 0, t.getD 1 0, q⟩
/-- steps on the lines -/
def stL (X Y : List Int) (k : List Int) : List (Int × Int) := (nxt X (k.getD 0 0)).map (fun n => (n - k.getD 0 0, 0)) ++ (nxt Y (k.getD 1 0)).map fun n => (0, n - k.getD 1 0)
def toL (k : List Int) (p : Int × Int) : List Int := [k.getD 0 0 + p.1, k.getD 1 0 + p.2, k.getD 2 0]
def sldK (R : Rm) (b : List Rc) (k : List Int) (p : Int × Int) : Bool := sld R b ⟨k.getD 0 0, k.getD 1 0, k.getD 2 0⟩ p.1 p.2
def nbL (R : Rm) (b : List Rc) (es : List Sd) (k : List Int) : List (List Int) := ((stL (LX R b es) (LY R b es) k).filter (sldK R b k)).map (toL k)
theorem mem_nbU {x y u v : Int} : [u, v] ∈ nbU R b q [x, y] ↔ ((u = x + 1 ∧ v = y) ∨ (u = x - 1 ∧ v = y) ∨ (u = x ∧ v = y + 1) ∨ (u = x ∧ v = y - 1)) ∧ std R b ⟨u, v, q⟩ = true := by
  unfold nbU
  rw [List.mem_filter]
  simp only [List.mem_cons, List.not_mem_nil, or_false, List.cons.injEq, and_true, List.getD_cons_zero, List.getD_cons_succ]
theorem slide_x (hR : okR R) (hb : okB b) {x y n : Int} (h : ∀ m, (x ≤ m ∧ m ≤ n) ∨ (n ≤ m ∧ m ≤ x) → std R b ⟨m, y, q⟩ = true) : sld R b ⟨x, y, q⟩ (n - x) 0 = true := by
  rcases Int.le_total x n with hx | hx
  · have := (sld_iff R hR b hb x y q 1 0 (by simp [dirs]) (n - x).toNat).mpr fun j hj => by
      have e1 : x + 1 * (j : Int) = x + j := by omega
      have e2 : y + 0 * (j : Int) = y := by omega
      rw [e1, e2]
      exact h _ (.inl (by omega))
    have e1 : (1 : Int) * ((n - x).toNat : Nat) = n - x := by omega
    have e2 : (0 : Int) * ((n - x).toNat : Nat) = 0 := by omega
    rwa [e1, e2] at this
  · have := (sld_iff R hR b hb x y q (-1) 0 (by simp [dirs]) (x - n).toNat).mpr fun j hj => by
      have e1 : x + -1 * (j : Int) = x - j := by omega
      have e2 : y + 0 * (j : Int) = y := by omega
      rw [e1, e2]
      exact h _ (.inr (by omega))
    have e1 : (-1 : Int) * ((x - n).toNat : Nat) = n - x := by omega
    have e2 : (0 : Int) * ((x - n).toNat : Nat) = 0 := by omega
    rwa [e1, e2] at this
theorem slide_y (hR : okR R) (hb : okB b) {x y n : Int} (h : ∀ m, (y ≤ m ∧ m ≤ n) ∨ (n ≤ m ∧ m ≤ y) → std R b ⟨x, m, q⟩ = true) : sld R b ⟨x, y, q⟩ 0 (n - y) = true := by
  rcases Int.le_total y n with hx | hx
  · have := (sld_iff R hR b hb x y q 0 1 (by simp [dirs]) (n - y).toNat).mpr fun j hj => by
      have e1 : y + 1 * (j : Int) = y + j := by omega
      have e2 : x + 0 * (j : Int) = x := by omega
      rw [e1, e2]
      exact h _ (.inl (by omega))
    have e1 : (1 : Int) * ((n - y).toNat : Nat) = n - y := by omega
    have e2 : (0 : Int) * ((n - y).toNat : Nat) = 0 := by omega
    rwa [e1, e2] at this
  · have := (sld_iff R hR b hb x y q 0 (-1) (by simp [dirs]) (y - n).toNat).mpr fun j hj => by
      have e1 : y + -1 * (j : Int) = y - j := by omega
      have e2 : x + 0 * (j : Int) = x := by omega
      rw [e1, e2]
      exact h _ (.inr (by omega))
    have e1 : (-1 : Int) * ((y - n).toNat : Nat) = n - y := by omega
    have e2 : (0 : Int) * ((y - n).toNat : Nat) = 0 := by omega
    rwa [e1, e2] at this
theorem nbL_x {x y n : Int} (h1 : n ∈ nxt (LX R b es) x) (h2 : sld R b ⟨x, y, q⟩ (n - x) 0 = true) : [n, y, q] ∈ nbL R b es [x, y, q] := by
  unfold nbL
  refine List.mem_map.mpr ⟨(n - x, 0), List.mem_filter.mpr ⟨List.mem_append_left _ (List.mem_map.mpr ⟨n, h1, rfl⟩), h2⟩, ?_⟩
  show [x + (n - x), y + 0, q] = _
  rw [Int.add_zero, show x + (n - x) = n by omega]
theorem nbL_y {x y n : Int} (h1 : n ∈ nxt (LY R b es) y) (h2 : sld R b ⟨x, y, q⟩ 0 (n - y) = true) : [x, n, q] ∈ nbL R b es [x, y, q] := by
  unfold nbL
  refine List.mem_map.mpr ⟨(0, n - y), List.mem_filter.mpr ⟨List.mem_append_right _ (List.mem_map.mpr ⟨n, h1, rfl⟩), h2⟩, ?_⟩
  show [x + 0, y + (n - y), q] = _
  rw [Int.add_zero, show y + (n - y) = n by omega]
/-- what unit steps come to, lines come to -/
theorem U_L (hR : okR R) (hb : okB b) (hq : 0 ≤ q ∧ q < 4) {sx sy : Int} (hs : std R b ⟨sx, sy, q⟩ = true) (mx : sx ∈ LX R b es) (my : sy ∈ LY R b es) {k : List Int} (h : Rch (nbU R b q) [sx, sy] k) :
    ∃ x y u v, k = [x, y] ∧ std R b ⟨x, y, q⟩ = true ∧ Pj (LX R b es) x u ∧ Pj (LY R b es) y v ∧ Rch (nbL R b es) [sx, sy, q] [u, v, q] := by
  have px := sortI_pw (lnX R b es)
  have py := sortI_pw (lnY R b es)
  induction h with
  | refl => exact ⟨sx, sy, sx, sy, rfl, hs, pj_self mx, pj_self my, .refl⟩
  | step _ hy ih =>
    rename_i k1 k2 _
    obtain ⟨x, y, u, v, rfl, h0, p, w, rc⟩ := ih
    have hk : k2 = [k2.getD 0 0, k2.getD 1 0] := by
      unfold nbU at hy
      have := (List.mem_filter.mp hy).1
      simp only [List.mem_cons, List.not_mem_nil, or_false] at this
      rcases this with rfl | rfl | rfl | rfl <;> rfl
    generalize k2.getD 0 0 = x2 at hk
    generalize k2.getD 1 0 = y2 at hk
    subst hk
    obtain ⟨hc, h2⟩ := mem_nbU.mp hy
    have ple := p.le
    have wle := w.le
    rcases hc with ⟨rfl, rfl⟩ | ⟨rfl, rfl⟩ | ⟨rfl, rfl⟩ | ⟨rfl, rfl⟩
    · by_cases hx : x + 1 ∈ LX R b es
      · refine ⟨_, _, x + 1, v, rfl, h2, pj_self hx, w, .step rc (nbL_x (adj_nxt px p.mem hx (by omega) fun m hm => ⟨by omega, fun z => p.gap m z.1 (by omega) hm⟩) (slide_x hR hb fun m hm => ?_))⟩
        have hm' : m ≤ x ∨ m = x + 1 := by omega
        rcases hm' with hm' | rfl
        · exact std_down hq (std_left hq h0 p (by omega) hm') w (Int.le_refl _) wle
        · exact std_down hq h2 w (Int.le_refl _) wle
      · exact ⟨_, _, u, v, rfl, h2, ⟨p.mem, by omega, fun m a1 a2 hm => by
          by_cases e : m = x + 1
          · exact hx (e ▸ hm)
          · exact p.gap m a1 (by omega) hm⟩, w, rc⟩
    · by_cases hx : x ∈ LX R b es
      · have eu := pj_one p (pj_self hx)
        subst eu
        obtain ⟨n, pn⟩ := pj_X (es := es) hb hq (u - 1 + frm b).toNat (u - 1) (by have := (std_range hb h2).1; omega) h2
        have nle := pn.le
        refine ⟨_, _, n, v, rfl, h2, pn, w, .step rc (nbL_x (adj_nxt px hx pn.mem (by omega) fun m hm => ⟨fun z => pn.gap m z.1 (by omega) hm, by omega⟩) (slide_x hR hb fun m hm => ?_))⟩
        have hm' : (n ≤ m ∧ m ≤ u - 1) ∨ m = u := by omega
        rcases hm' with hm' | rfl
        · exact std_down hq (std_left hq h2 pn hm'.1 hm'.2) w (Int.le_refl _) wle
        · exact std_down hq h0 w (Int.le_refl _) wle
      · have ne : u ≠ x := fun e => hx (e ▸ p.mem)
        exact ⟨_, _, u, v, rfl, h2, ⟨p.mem, by omega, fun m a1 a2 => p.gap m a1 (by omega)⟩, w, rc⟩
    · by_cases hx : y + 1 ∈ LY R b es
      · refine ⟨_, _, u, y + 1, rfl, h2, p, pj_self hx, .step rc (nbL_y (adj_nxt py w.mem hx (by omega) fun m hm => ⟨by omega, fun z => w.gap m z.1 (by omega) hm⟩) (slide_y hR hb fun m hm => ?_))⟩
        have hm' : m ≤ y ∨ m = y + 1 := by omega
        rcases hm' with hm' | rfl
        · exact std_left hq (std_down hq h0 w (by omega) hm') p (Int.le_refl _) ple
        · exact std_left hq h2 p (Int.le_refl _) ple
      · exact ⟨_, _, u, v, rfl, h2, p, ⟨w.mem, by omega, fun m a1 a2 hm => by
          by_cases e : m = y + 1
          · exact hx (e ▸ hm)
          · exact w.gap m a1 (by omega) hm⟩, rc⟩
    · by_cases hx : y ∈ LY R b es
      · have eu := pj_one w (pj_self hx)
        subst eu
        obtain ⟨n, pn⟩ := pj_Y (es := es) hb hq (v - 1 + frm b).toNat (v - 1) (by have := (std_range hb h2).2.2.1; omega) h2
        have nle := pn.le
        refine ⟨_, _, u, n, rfl, h2, p, pn, .step rc (nbL_y (adj_nxt py hx pn.mem (by omega) fun m hm => ⟨fun z => pn.gap m z.1 (by omega) hm, by omega⟩) (slide_y hR hb fun m hm => ?_))⟩
        have hm' : (n ≤ m ∧ m ≤ v - 1) ∨ m = v := by omega
        rcases hm' with hm' | rfl
        · exact std_left hq (std_down hq h2 pn hm'.1 hm'.2) p (Int.le_refl _) ple
        · exact std_left hq h0 p (Int.le_refl _) ple
      · have ne : v ≠ y := fun e => hx (e ▸ w.mem)
        exact ⟨_, _, u, v, rfl, h2, p, ⟨w.mem, by omega, fun m a1 a2 => w.gap m a1 (by omega)⟩, rc⟩
/-- and the other way about -/
theorem steps_x (hR : okR R) (hb : okB b) {sx sy x y n : Int} (h : Rch (nbU R b q) [sx, sy] [x, y]) (hs : sld R b ⟨x, y, q⟩ (n - x) 0 = true) : Rch (nbU R b q) [sx, sy] [n, y] := by
  rcases Int.le_total x n with hx | hx
  · have e1 : (1 : Int) * ((n - x).toNat : Nat) = n - x := by omega
    have e2 : (0 : Int) * ((n - x).toNat : Nat) = 0 := by omega
    have g := (sld_iff R hR b hb x y q 1 0 (by simp [dirs]) (n - x).toNat).mp (by rw [e1, e2]; exact hs)
    have go : ∀ j : Nat, j ≤ (n - x).toNat → Rch (nbU R b q) [sx, sy] [x + j, y] := fun j => by
      induction j with
      | zero => intro _; simpa using h
      | succ j ih =>
        intro hj
        refine .step (ih (by omega)) (mem_nbU.mpr ⟨.inl ⟨by omega, rfl⟩, ?_⟩)
        have := g (j + 1) hj
        have e3 : x + 1 * ((j + 1 : Nat) : Int) = x + ((j + 1 : Nat) : Int) := by omega
        have e4 : y + 0 * ((j + 1 : Nat) : Int) = y := by omega
        rwa [e3, e4] at this
    have := go (n - x).toNat (Nat.le_refl _)
    have e5 : x + ((n - x).toNat : Int) = n := by omega
    rwa [e5] at this
  · have e1 : (-1 : Int) * ((x - n).toNat : Nat) = n - x := by omega
    have e2 : (0 : Int) * ((x - n).toNat : Nat) = 0 := by omega
    have g := (sld_iff R hR b hb x y q (-1) 0 (by simp [dirs]) (x - n).toNat).mp (by rw [e1, e2]; exact hs)
    have go : ∀ j : Nat, j ≤ (x - n).toNat → Rch (nbU R b q) [sx, sy] [x - j, y] := fun j => by
      induction j with
      | zero => intro _; simpa using h
      | succ j ih =>
        intro hj
        refine .step (ih (by omega)) (mem_nbU.mpr ⟨.inr (.inl ⟨by omega, rfl⟩), ?_⟩)
        have := g (j + 1) hj
        have e3 : x + -1 * ((j + 1 : Nat) : Int) = x - ((j + 1 : Nat) : Int) := by omega
        have e4 : y + 0 * ((j + 1 : Nat) : Int) = y := by omega
        rwa [e3, e4] at this
    have := go (x - n).toNat (Nat.le_refl _)
    have e5 : x - ((x - n).toNat : Int) = n := by omega
    rwa [e5] at this
theorem steps_y (hR : okR R) (hb : okB b) {sx sy x y n : Int} (h : Rch (nbU R b q) [sx, sy] [x, y]) (hs : sld R b ⟨x, y, q⟩ 0 (n - y) = true) : Rch (nbU R b q) [sx, sy] [x, n] := by
  rcases Int.le_total y n with hx | hx
  · have e1 : (1 : Int) * ((n - y).toNat : Nat) = n - y := by omega
    have e2 : (0 : Int) * ((n - y).toNat : Nat) = 0 := by omega
    have g := (sld_iff R hR b hb x y q 0 1 (by simp [dirs]) (n - y).toNat).mp (by rw [e1, e2]; exact hs)
    have go : ∀ j : Nat, j ≤ (n - y).toNat → Rch (nbU R b q) [sx, sy] [x, y + j] := fun j => by
      induction j with
      | zero => intro _; simpa using h
      | succ j ih =>
        intro hj
        refine .step (ih (by omega)) (mem_nbU.mpr ⟨.inr (.inr (.inl ⟨rfl, by omega⟩)), ?_⟩)
        have := g (j + 1) hj
        have e3 : y + 1 * ((j + 1 : Nat) : Int) = y + ((j + 1 : Nat) : Int) := by omega
        have e4 : x + 0 * ((j + 1 : Nat) : Int) = x := by omega
        rwa [e3, e4] at this
    have := go (n - y).toNat (Nat.le_refl _)
    have e5 : y + ((n - y).toNat : Int) = n := by omega
    rwa [e5] at this
  · have e1 : (-1 : Int) * ((y - n).toNat : Nat) = n - y := by omega
    have e2 : (0 : Int) * ((y - n).toNat : Nat) = 0 := by omega
    have g := (sld_iff R hR b hb x y q 0 (-1) (by simp [dirs]) (y - n).toNat).mp (by rw [e1, e2]; exact hs)
    have go : ∀ j : Nat, j ≤ (y - n).toNat → Rch (nbU R b q) [sx, sy] [x, y - j] := fun j => by
      induction j with
      | zero => intro _; simpa using h
      | succ j ih =>
        intro hj
        refine .step (ih (by omega)) (mem_nbU.mpr ⟨.inr (.inr (.inr ⟨rfl, by omega⟩)), ?_⟩)
        have := g (j + 1) hj
        have e3 : y + -1 * ((j + 1 : Nat) : Int) = y - ((j + 1 : Nat) : Int) := by omega
        have e4 : x + 0 * ((j + 1 : Nat) : Int) = x := by omega
        rwa [e3, e4] at this
    have := go (y - n).toNat (Nat.le_refl _)
    have e5 : y - ((y - n).toNat : Int) = n := by omega
    rwa [e5] at this
theorem mem_nbL {x y : Int} {k : List Int} (h : k ∈ nbL R b es [x, y, q]) : (∃ n, n ∈ nxt (LX R b es) x ∧ sld R b ⟨x, y, q⟩ (n - x) 0 = true ∧ k = [n, y, q]) ∨ ∃ n, n ∈ nxt (LY R b es) y ∧ sld R b ⟨x, y, q⟩ 0 (n - y) = true ∧ k = [x, n, q] := by
  unfold nbL at h
  obtain ⟨p, hp, rfl⟩ := List.mem_map.mp h
  obtain ⟨h1, h2⟩ := List.mem_filter.mp hp
  unfold stL at h1
  rcases List.mem_append.mp h1 with h1 | h1
  · obtain ⟨n, hn, rfl⟩ := List.mem_map.mp h1
    refine .inl ⟨n, hn, h2, ?_⟩
    show [x + (n - x), y + 0, q] = _
    rw [Int.add_zero, show x + (n - x) = n by omega]
  · obtain ⟨n, hn, rfl⟩ := List.mem_map.mp h1
    refine .inr ⟨n, hn, h2, ?_⟩
    show [x + 0, y + (n - y), q] = _
    rw [Int.add_zero, show y + (n - y) = n by omega]
/-- all that lines come to -/
theorem L_U (hR : okR R) (hb : okB b) {sx sy : Int} (hs : std R b ⟨sx, sy, q⟩ = true) (mx : sx ∈ LX R b es) (my : sy ∈ LY R b es) {k : List Int} (h : Rch (nbL R b es) [sx, sy, q] k) :
    ∃ x y, k = [x, y, q] ∧ x ∈ LX R b es ∧ y ∈ LY R b es ∧ std R b ⟨x, y, q⟩ = true ∧ Rch (nbU R b q) [sx, sy] [x, y] := by
  induction h with
  | refl => exact ⟨sx, sy, rfl, mx, my, hs, .refl⟩
  | step _ hy ih =>
    obtain ⟨x, y, rfl, hx, hy', h0, rc⟩ := ih
    rcases mem_nbL hy with ⟨n, hn, hsl, rfl⟩ | ⟨n, hn, hsl, rfl⟩
    · have r2 := steps_x hR hb rc hsl
      refine ⟨n, y, rfl, nxt_sub hn, hy', ?_, r2⟩
      by_cases e : [n, y] = [sx, sy]
      · simp only [List.cons.injEq, and_true] at e
        rw [e.1, e.2]
        exact hs
      · cases r2 with
        | refl => exact absurd rfl e
        | step a c =>
          unfold nbU at c
          exact (List.mem_filter.mp c).2
    · have r2 := steps_y hR hb rc hsl
      refine ⟨x, n, rfl, hx, nxt_sub hn, ?_, r2⟩
      by_cases e : [x, n] = [sx, sy]
      · simp only [List.cons.injEq, and_true] at e
        rw [e.1, e.2]
        exact hs
      · cases r2 with
        | refl => exact absurd rfl e
        | step a c =>
          unfold nbU at c
          exact (List.mem_filter.mp c).2
theorem U_iff_L (hR : okR R) (hb : okB b) (hq : 0 ≤ q ∧ q < 4) {sx sy gx gy : Int} (hs : std R b ⟨sx, sy, q⟩ = true) (e1 : ⟨sx, sy, q⟩ ∈ es) (e2 : ⟨gx, gy, q⟩ ∈ es) : Rch (nbU R b q) [sx, sy] [gx, gy] ↔ Rch (nbL R b es) [sx, sy, q] [gx, gy, q] := by
  have mx : sx ∈ LX R b es := mem_LX.mpr (.inl ⟨_, e1, rfl⟩)
  have my : sy ∈ LY R b es := mem_LY.mpr (.inl ⟨_, e1, rfl⟩)
  have nx : gx ∈ LX R b es := mem_LX.mpr (.inl ⟨_, e2, rfl⟩)
  have ny : gy ∈ LY R b es := mem_LY.mpr (.inl ⟨_, e2, rfl⟩)
  constructor
  · intro h
    obtain ⟨x, y, u, v, e, _, p, w, rc⟩ := U_L (es := es) hR hb hq hs mx my h
    simp only [List.cons.injEq, and_true] at e
    obtain ⟨rfl, rfl⟩ := e
    rw [pj_one p (pj_self nx), pj_one w (pj_self ny)] at rc
    exact rc
  · intro h
    obtain ⟨x, y, e, _, _, _, rc⟩ := L_U hR hb hs mx my h
    simp only [List.cons.injEq, and_true] at e
    obtain ⟨rfl, rfl⟩ := e
    exact rc
end
end Fx
namespace Fx
open PySem PySem.Spec L2
/-! ### slides_to -/
theorem cut_nat {α : Type} (xs : List α) (i j : Nat) : cutL xs (some (i : Int)) (some (j : Int)) = (xs.drop (min i xs.length)).take (min j xs.length - min i xs.length) := by
  unfold cutL
  rw [HT.sIx_nat, HT.sIx_nat]
theorem nxt_cut (X : List Int) {x : Int} (hx : x ∈ X) : cutL X (some ((X.idxOf x - 1 : Nat) : Int)) (some ((X.idxOf x : Nat) : Int)) ++ cutL X (some ((X.idxOf x + 1 : Nat) : Int)) (some ((X.idxOf x + 2 : Nat) : Int)) = nxt X x := by
  have ha : X.idxOf x < X.length := List.idxOf_lt_length_of_mem hx
  unfold nxt
  generalize X.idxOf x = a at *
  rw [cut_nat, cut_nat]
  congr 1
  · rw [List.drop_take, Nat.min_eq_left (by omega), Nat.min_eq_left (by omega)]
  · by_cases h : a + 1 < X.length
    · rw [Nat.min_eq_left (by omega), Nat.min_eq_left (by omega)]
      congr 1
      omega
    · rw [show min (a + 1) X.length = X.length by omega, List.drop_length, List.drop_of_length_le (show X.length ≤ a + 1 by omega)]
      simp
theorem cut_map {α β : Type} (f : α → β) (xs : List α) (lo hi : Option Int) : cutL (xs.map f) lo hi = (cutL xs lo hi).map f := by
  unfold cutL
  rw [List.length_map, List.map_take, List.map_drop]
theorem next_to_ev (X : List Int) (x : Int) (hx : x ∈ X) (hl : X.length ≤ 50000) : g_next_to [.list (X.map PyData.int), .int x] = some (.list ((nxt X x).map PyData.int)) := by
  have ha : X.idxOf x < X.length := List.idxOf_lt_length_of_mem hx
  have e2 := intsD_map (fun n : Int => n) X
  simp only [List.map_id'] at e2
  refine fnV_ev (rho := [.val (.list (X.map PyData.int)), .val (.int x), .val (.int (X.idxOf x : Nat))]) (sSeq_ev (s1 := ⟨[.val (.list (X.map PyData.int)), .val (.int x), .val (.int (X.idxOf x : Nat))], none⟩) (sSet_ev (s1 := ⟨[.val (.list (X.map PyData.int)), .val (.int x), .no], none⟩) (d := .int (X.idxOf x : Nat)) (eBin_ev rfl rfl ?_)) (sRet_ev ?_))
  · show (intsD (X.map PyData.int)).bind _ = _
    rw [e2, Option.bind_some, if_pos hx]
  · have s1 : (eSl slL (eVar 0) (oSome (eCall max2D (aCons (eC (.int 0)) (aCons (eBin subD (eVar 2) (eC (.int 1))) (aNil))))) (oSome (eVar 2))) ⟨[.val (.list (X.map PyData.int)), .val (.int x), .val (.int (X.idxOf x : Nat))], none⟩ = some (.list ((cutL X (some ((X.idxOf x - 1 : Nat) : Int)) (some ((X.idxOf x : Nat) : Int))).map PyData.int), ⟨[.val (.list (X.map PyData.int)), .val (.int x), .val (.int (X.idxOf x : Nat))], none⟩) := by
      have m : (if ((X.idxOf x : Nat) : Int) - 1 > 0 then ((X.idxOf x : Nat) : Int) - 1 else 0) = ((X.idxOf x - 1 : Nat) : Int) := by split <;> omega
      show some (PyData.list (cutL (X.map PyData.int) (some (if ((X.idxOf x : Nat) : Int) - 1 > 0 then ((X.idxOf x : Nat) : Int) - 1 else 0)) (some ((X.idxOf x : Nat) : Int))), _) = _
      rw [m, cut_map]
    have s2 : (eSl slL (eVar 0) (oSome (eBin addD (eVar 2) (eC (.int 1)))) (oSome (eBin addD (eVar 2) (eC (.int 2))))) ⟨[.val (.list (X.map PyData.int)), .val (.int x), .val (.int (X.idxOf x : Nat))], none⟩ = some (.list ((cutL X (some ((X.idxOf x + 1 : Nat) : Int)) (some ((X.idxOf x + 2 : Nat) : Int))).map PyData.int), ⟨[.val (.list (X.map PyData.int)), .val (.int x), .val (.int (X.idxOf x : Nat))], none⟩) := by
      show some (PyData.list (cutL (X.map PyData.int) (some (((X.idxOf x : Nat) : Int) + 1)) (some (((X.idxOf x : Nat) : Int) + 2))), _) = _
      rw [cut_map]
      rfl
    have ln : ∀ lo hi, (cutL X lo hi).length ≤ X.length := fun lo hi => by
      unfold cutL
      rw [List.length_take, List.length_drop]
      omega
    have := eBin_ev (g := catD) s1 s2 (catD_ev (by rw [List.length_map, List.length_map]; have := ln (some ((X.idxOf x - 1 : Nat) : Int)) (some ((X.idxOf x : Nat) : Int)); have := ln (some ((X.idxOf x + 1 : Nat) : Int)) (some ((X.idxOf x + 2 : Nat) : Int)); omega))
    rw [this, ← List.map_append, nxt_cut X hx]
theorem nxt_len (X : List Int) (x : Int) : (nxt X x).length ≤ 2 := by
  unfold nxt
  rw [List.length_append, List.length_drop, List.length_take, List.length_take, List.length_drop]
  omega
theorem ownN {l : List (List Int)} {k : Nat} {h : List Int} (e : l[k]? = some h) : ixD (.list (l.map kD)) (.int (k : Nat)) = some (kD h) := by
  have hk : k < l.length := (List.getElem?_eq_some_iff.mp e).1
  show atI (l.map kD) (k : Nat) = _
  unfold atI ixN
  rw [if_pos (by omega), if_pos (by rw [List.length_map]; omega), Option.bind_some, Int.toNat_natCast, List.getElem?_map, e]
  rfl
theorem eqK_ev (k l : List Int) : eqD (kD k) (kD l) = some (.bool (decide (k = l))) := by
  unfold eqD
  rw [if_pos ⟨shaped_kD k, shaped_kD l⟩, eqv_kD]
theorem addAll_snoc {α : Type} [DecidableEq α] (o ts : List α) (t : α) : addAll o (ts ++ [t]) = if t ∈ addAll o ts then addAll o ts else addAll o ts ++ [t] := by
  unfold addAll
  rw [List.foldl_append, List.foldl_cons, List.foldl_nil]
theorem step_in {α β : Type} [DecidableEq α] (f : β → α) (p : β → Bool) (o : List α) (ts : List β) (t : β) (h : f t ∈ addAll o ((ts.filter p).map f)) : addAll o (((ts ++ [t]).filter p).map f) = addAll o ((ts.filter p).map f) := by
  rw [List.filter_append, List.map_append]
  by_cases hp : p t = true
  · rw [List.filter_cons, if_pos hp, List.filter_nil, List.map_cons, List.map_nil, addAll_snoc, if_pos h]
  · rw [List.filter_cons, if_neg hp, List.filter_nil, List.map_nil, List.append_nil]
theorem step_no {α β : Type} [DecidableEq α] (f : β → α) (p : β → Bool) (o : List α) (ts : List β) (t : β) (h : p t = false) : addAll o (((ts ++ [t]).filter p).map f) = addAll o ((ts.filter p).map f) := by
  rw [List.filter_append, List.map_append, List.filter_cons, if_neg (by rw [h]; exact Bool.false_ne_true), List.filter_nil, List.map_nil, List.append_nil]
theorem step_new {α β : Type} [DecidableEq α] (f : β → α) (p : β → Bool) (o : List α) (ts : List β) (t : β) (hp : p t = true) (h : f t ∉ addAll o ((ts.filter p).map f)) : addAll o (((ts ++ [t]).filter p).map f) = addAll o ((ts.filter p).map f) ++ [f t] := by
  rw [List.filter_append, List.map_append, List.filter_cons, if_pos hp, List.filter_nil, List.map_cons, List.map_nil, addAll_snoc, if_neg h]
abbrev pD (p : Int × Int) : D := .tuple [.int p.1, .int p.2]
section
variable (R : Rm) (b : List Rc) (s g : Sd)
def TS (o : List (List Int)) (k : Int) (c9 c10 c11 c12 c13 : C) : S := ⟨[.val (rmD R), .val (rcsD b), .val (sdD s), .val (sdD g), .own (.dict (entK o)), .own (.list (o.map kD)), .val (.int k), .val (.list ((LX R b [s, g]).map PyData.int)), .val (.list ((LY R b [s, g]).map PyData.int)), c9, c10, c11, c12, c13, .no], none⟩
abbrev slBody : Fs := sSeq (sSet 9 (eIxO 5 (eVar 6)))
  (sSeq (sAug 6 addI (eC (.int 1)))
  (sSeq (sIf (eBin eqD (eVar 9) (eVar 3))
  (sRet (eC (.bool true)))
  (sNext))
  (sSeq (sSetF 10 (eComp (iterS (eFn 2 g_next_to (aCons (eVar 7) (aCons (eBin ixD (eVar 9) (eC (.int 0))) (aNil))))) (gNm 14) (eC (.bool true)) [14] (pEmit (eTup (aCons (eBin subD (eVar 14) (eBin ixD (eVar 9) (eC (.int 0)))) (aCons (eC (.int 0)) (aNil)))))))
  (sSeq (sExt 10 (eComp (iterS (eFn 2 g_next_to (aCons (eVar 8) (aCons (eBin ixD (eVar 9) (eC (.int 1))) (aNil))))) (gNm 14) (eC (.bool true)) [14] (pEmit (eTup (aCons (eC (.int 0)) (aCons (eBin subD (eVar 14) (eBin ixD (eVar 9) (eC (.int 1)))) (aNil)))))))
  (sFrz 10 (sFor (iterS (eVar 10)) (gTp 2 (gsCons (gNm 11) (gsCons (gNm 12) (gsNil))))
  (sSeq (sSet 13 (eTup (aCons (eBin addD (eBin ixD (eVar 9) (eC (.int 0))) (eVar 11)) (aCons (eBin addD (eBin ixD (eVar 9) (eC (.int 1))) (eVar 12)) (aCons (eBin ixD (eVar 9) (eC (.int 2))) (aNil))))))
  (sIf (eAnd (eDO 4 notInY (eVar 13)) (eFn 5 g_slides (aCons (eVar 0) (aCons (eVar 1) (aCons (eVar 9) (aCons (eVar 11) (aCons (eVar 12) (aNil))))))))
  (sSeq (sPutY 4 (eVar 13) (eC (.bool true)))
  (sApp 5 (eVar 13)))
  (sNext)))))))))
theorem DO_ev {i : Nat} {f : Fe} {st : S} {k : List Int} {o : List (List Int)} (h : f st = some (kD k, st)) (h0 : st.ownY i = some (entK o)) (hne : ∀ l ∈ o, l ≠ []) (hk : k ≠ []) : eDO i notInY f st = some (.bool (!decide (k ∈ o)), st) := by
  unfold eDO
  rw [h, Option.bind_some]
  dsimp only
  rw [h0, Option.bind_some, notInY_ev hne hk]
  rfl
theorem DOin_ev {i : Nat} {f : Fe} {st : S} {k : List Int} {o : List (List Int)} (h : f st = some (kD k, st)) (h0 : st.ownY i = some (entK o)) (hne : ∀ l ∈ o, l ≠ []) (hk : k ≠ []) : eDO i inY f st = some (.bool (decide (k ∈ o)), st) := by
  unfold eDO
  rw [h, Option.bind_some]
  dsimp only
  rw [h0, Option.bind_some, inY_ev hne hk]
  rfl
/-- one turn of the loop -/
theorem sl_step (hR : okR R) (hb : okB b) (l1 : (LX R b [s, g]).length ≤ 50000) (l2 : (LY R b [s, g]).length ≤ 50000) (o : List (List Int)) (k : Nat) (x y q : Int) (e : o[k]? = some [x, y, q]) (hx : x ∈ LX R b [s, g]) (hy : y ∈ LY R b [s, g]) (hs : okS ⟨x, y, q⟩) (hne : ∀ l ∈ o, l ≠ []) (hl : o.length ≤ 50000) (c9 c10 c11 c12 c13 : C) :
    ∃ s', (decide ([x, y, q] = [g.x, g.y, g.t]) = true → slBody (TS R b s g o k c9 c10 c11 c12 c13) = some (.ret (.bool true), s') ∧ s'.tw = none) ∧ (decide ([x, y, q] = [g.x, g.y, g.t]) = false → slBody (TS R b s g o k c9 c10 c11 c12 c13) = some (.next, s') ∧ ∃ c9 c10 c11 c12 c13, s' = TS R b s g (addAll o (nbL R b [s, g] [x, y, q])) ((k + 1 : Nat) : Int) c9 c10 c11 c12 c13) := by
  have a1 : (sSet 9 (eIxO 5 (eVar 6))) (TS R b s g o k c9 c10 c11 c12 c13) = some (.next, TS R b s g o k (.val (kD [x, y, q])) c10 c11 c12 c13) := sSet_ev (s1 := TS R b s g o k c9 c10 c11 c12 c13) (by
    unfold eIxO
    show (ixD (.list (o.map kD)) (.int k)).map _ = _
    rw [ownN e]
    rfl)
  have a2 : (sAug 6 addI (eC (.int 1))) (TS R b s g o k (.val (kD [x, y, q])) c10 c11 c12 c13) = some (.next, TS R b s g o ((k + 1 : Nat) : Int) (.val (kD [x, y, q])) c10 c11 c12 c13) := rfl
  have a3 : (eBin eqD (eVar 9) (eVar 3)) (TS R b s g o ((k + 1 : Nat) : Int) (.val (kD [x, y, q])) c10 c11 c12 c13) = some (.bool (decide ([x, y, q] = [g.x, g.y, g.t])), TS R b s g o ((k + 1 : Nat) : Int) (.val (kD [x, y, q])) c10 c11 c12 c13) := eBin_ev rfl rfl (eqK_ev [x, y, q] [g.x, g.y, g.t])
  cases hst : decide ([x, y, q] = [g.x, g.y, g.t]) with
  | true =>
    rw [hst] at a3
    exact ⟨_, fun _ => ⟨sSeq_ev a1 (sSeq_ev a2 (sSeq_ret (sIf_t a3 rfl) (fun z => nomatch z))), rfl⟩, fun z => nomatch z⟩
  | false =>
    rw [hst] at a3
    have n1 := next_to_ev (LX R b [s, g]) x hx l1
    have n2 := next_to_ev (LY R b [s, g]) y hy l2
    have a4 : (sSetF 10 (eComp (iterS (eFn 2 g_next_to (aCons (eVar 7) (aCons (eBin ixD (eVar 9) (eC (.int 0))) (aNil))))) (gNm 14) (eC (.bool true)) [14] (pEmit (eTup (aCons (eBin subD (eVar 14) (eBin ixD (eVar 9) (eC (.int 0)))) (aCons (eC (.int 0)) (aNil))))))) (TS R b s g o ((k + 1 : Nat) : Int) (.val (kD [x, y, q])) c10 c11 c12 c13) = some (.next, TS R b s g o ((k + 1 : Nat) : Int) (.val (kD [x, y, q])) (.own (.list ((nxt (LX R b [s, g]) x).map fun n => pD (n - x, 0)))) c11 c12 c13) := sSetF_ev (s1 := TS R b s g o ((k + 1 : Nat) : Int) (.val (kD [x, y, q])) c10 c11 c12 c13) (map_ev0 (nxt (LX R b [s, g]) x) PyData.int (fun n => pD (n - x, 0)) (iterS_ev (eFn_ev (xs := [.list ((LX R b [s, g]).map PyData.int), .int x]) rfl rfl n1) rfl) rfl rfl (fun n _ => ⟨_, rfl, rfl, rfl⟩) (by have := nxt_len (LX R b [s, g]) x; omega)) (by unfold TS; simp)
    have a5 : (sExt 10 (eComp (iterS (eFn 2 g_next_to (aCons (eVar 8) (aCons (eBin ixD (eVar 9) (eC (.int 1))) (aNil))))) (gNm 14) (eC (.bool true)) [14] (pEmit (eTup (aCons (eC (.int 0)) (aCons (eBin subD (eVar 14) (eBin ixD (eVar 9) (eC (.int 1)))) (aNil))))))) (TS R b s g o ((k + 1 : Nat) : Int) (.val (kD [x, y, q])) (.own (.list ((nxt (LX R b [s, g]) x).map fun n => pD (n - x, 0)))) c11 c12 c13) = some (.next, TS R b s g o ((k + 1 : Nat) : Int) (.val (kD [x, y, q])) (.own (.list ((stL (LX R b [s, g]) (LY R b [s, g]) [x, y, q]).map pD))) c11 c12 c13) := by
      have q1 := map_ev0 (fi := iterS (eFn 2 g_next_to (aCons (eVar 8) (aCons (eBin ixD (eVar 9) (eC (.int 1))) (aNil))))) (g := gNm 14) (f := eTup (aCons (eC (.int 0)) (aCons (eBin subD (eVar 14) (eBin ixD (eVar 9) (eC (.int 1)))) (aNil)))) (vs := [14]) (s := TS R b s g o ((k + 1 : Nat) : Int) (.val (kD [x, y, q])) (.own (.list ((nxt (LX R b [s, g]) x).map fun n => pD (n - x, 0)))) c11 c12 c13) (nxt (LY R b [s, g]) y) PyData.int (fun n => pD (0, n - y)) (iterS_ev (eFn_ev (xs := [.list ((LY R b [s, g]).map PyData.int), .int y]) rfl rfl n2) rfl) rfl rfl (fun n _ => ⟨_, rfl, rfl, rfl⟩) (by have := nxt_len (LY R b [s, g]) y; omega)
      have := sExt_ev (i := 10) (ds := (nxt (LX R b [s, g]) x).map fun n => pD (n - x, 0)) rfl q1 (by rw [List.length_map, List.length_map]; have := nxt_len (LX R b [s, g]) x; have := nxt_len (LY R b [s, g]) y; omega)
      refine this.trans ?_
      have e : ((nxt (LX R b [s, g]) x).map fun n => pD (n - x, 0)) ++ (nxt (LY R b [s, g]) y).map (fun n => pD (0, n - y)) = (stL (LX R b [s, g]) (LY R b [s, g]) [x, y, q]).map pD := by
        unfold stL
        rw [List.map_append, List.map_map, List.map_map]
        rfl
      rw [e]
      rfl
    have sl4 : (stL (LX R b [s, g]) (LY R b [s, g]) [x, y, q]).length ≤ 4 := by
      unfold stL
      rw [List.length_append, List.length_map, List.length_map]
      have := nxt_len (LX R b [s, g]) x
      have := nxt_len (LY R b [s, g]) y
      show (nxt (LX R b [s, g]) x).length + (nxt (LY R b [s, g]) y).length ≤ 4
      omega
    obtain ⟨s2, e2, c, ⟨c11', c12', c13', rfl⟩, ho, _, _⟩ := for_pre (fi := iterS (eVar 10)) (g := gTp 2 (gsCons (gNm 11) (gsCons (gNm 12) (gsNil)))) (F := sSeq (sSet 13 (eTup (aCons (eBin addD (eBin ixD (eVar 9) (eC (.int 0))) (eVar 11)) (aCons (eBin addD (eBin ixD (eVar 9) (eC (.int 1))) (eVar 12)) (aCons (eBin ixD (eVar 9) (eC (.int 2))) (aNil))))))
      (sIf (eAnd (eDO 4 notInY (eVar 13)) (eFn 5 g_slides (aCons (eVar 0) (aCons (eVar 1) (aCons (eVar 9) (aCons (eVar 11) (aCons (eVar 12) (aNil))))))))
      (sSeq (sPutY 4 (eVar 13) (eC (.bool true)))
      (sApp 5 (eVar 13)))
      (sNext))) (s := TS R b s g o ((k + 1 : Nat) : Int) (.val (kD [x, y, q])) (.val (.list ((stL (LX R b [s, g]) (LY R b [s, g]) [x, y, q]).map pD))) c11 c12 c13) (s1 := TS R b s g o ((k + 1 : Nat) : Int) (.val (kD [x, y, q])) (.val (.list ((stL (LX R b [s, g]) (LY R b [s, g]) [x, y, q]).map pD))) c11 c12 c13) (stL (LX R b [s, g]) (LY R b [s, g]) [x, y, q]) pD (fun pre st => ∃ o', (∃ c11 c12 c13, st = TS R b s g o' ((k + 1 : Nat) : Int) (.val (kD [x, y, q])) (.val (.list ((stL (LX R b [s, g]) (LY R b [s, g]) [x, y, q]).map pD))) c11 c12 c13) ∧ o' = addAll o ((pre.filter (sldK R b [x, y, q])).map (toL [x, y, q])) ∧ (∀ l ∈ o', l ≠ []) ∧ o'.length ≤ o.length + pre.length) rfl ⟨o, ⟨c11, c12, c13, rfl⟩, rfl, hne, Nat.le_refl _⟩ (by
        rintro pre t suf _ hall ⟨o', ⟨c11, c12, c13, rfl⟩, eo, hne', hlen⟩
        have hpl : pre.length < 4 := by have := congrArg List.length hall; rw [List.length_append, List.length_cons] at this; omega
        have b1 : (sSet 13 (eTup (aCons (eBin addD (eBin ixD (eVar 9) (eC (.int 0))) (eVar 11)) (aCons (eBin addD (eBin ixD (eVar 9) (eC (.int 1))) (eVar 12)) (aCons (eBin ixD (eVar 9) (eC (.int 2))) (aNil)))))) (TS R b s g o' ((k + 1 : Nat) : Int) (.val (kD [x, y, q])) (.val (.list ((stL (LX R b [s, g]) (LY R b [s, g]) [x, y, q]).map pD))) (.val (.int t.1)) (.val (.int t.2)) c13) = some (.next, TS R b s g o' ((k + 1 : Nat) : Int) (.val (kD [x, y, q])) (.val (.list ((stL (LX R b [s, g]) (LY R b [s, g]) [x, y, q]).map pD))) (.val (.int t.1)) (.val (.int t.2)) (.val (kD (toL [x, y, q] t)))) := rfl
        have nn : toL [x, y, q] t ≠ [] := fun z => nomatch z
        have b2 : (eAnd (eDO 4 notInY (eVar 13)) (eFn 5 g_slides (aCons (eVar 0) (aCons (eVar 1) (aCons (eVar 9) (aCons (eVar 11) (aCons (eVar 12) (aNil)))))))) (TS R b s g o' ((k + 1 : Nat) : Int) (.val (kD [x, y, q])) (.val (.list ((stL (LX R b [s, g]) (LY R b [s, g]) [x, y, q]).map pD))) (.val (.int t.1)) (.val (.int t.2)) (.val (kD (toL [x, y, q] t)))) = some (.bool (!decide (toL [x, y, q] t ∈ o') && sldK R b [x, y, q] t), TS R b s g o' ((k + 1 : Nat) : Int) (.val (kD [x, y, q])) (.val (.list ((stL (LX R b [s, g]) (LY R b [s, g]) [x, y, q]).map pD))) (.val (.int t.1)) (.val (.int t.2)) (.val (kD (toL [x, y, q] t)))) := eAnd_ev (DO_ev (k := toL [x, y, q] t) (o := o') rfl rfl hne' nn) fun _ => eFn_ev (xs := [rmD R, rcsD b, sdD ⟨x, y, q⟩, .int t.1, .int t.2]) rfl rfl (slides_ev R b ⟨x, y, q⟩ t.1 t.2 hR hb hs)
        by_cases hm : toL [x, y, q] t ∈ o'
        · rw [decide_eq_true hm] at b2
          refine ⟨_, _, rfl, .inl (sSeq_ev b1 (sIf_f b2 rfl)), o', ⟨_, _, _, rfl⟩, ?_, hne', by rw [List.length_append]; omega⟩
          rw [eo] at hm ⊢
          exact (step_in _ _ _ _ _ hm).symm
        · rw [decide_eq_false hm] at b2
          cases hsl : sldK R b [x, y, q] t with
          | false =>
            rw [hsl] at b2
            refine ⟨_, _, rfl, .inl (sSeq_ev b1 (sIf_f b2 rfl)), o', ⟨_, _, _, rfl⟩, ?_, hne', by rw [List.length_append]; omega⟩
            rw [eo]
            exact (step_no _ _ _ _ _ hsl).symm
          | true =>
            rw [hsl] at b2
            have p1 : (sPutY 4 (eVar 13) (eC (.bool true))) (TS R b s g o' ((k + 1 : Nat) : Int) (.val (kD [x, y, q])) (.val (.list ((stL (LX R b [s, g]) (LY R b [s, g]) [x, y, q]).map pD))) (.val (.int t.1)) (.val (.int t.2)) (.val (kD (toL [x, y, q] t)))) = some (.next, ⟨[.val (rmD R), .val (rcsD b), .val (sdD s), .val (sdD g), .own (.dict (entK (o' ++ [toL [x, y, q] t]))), .own (.list (o'.map kD)), .val (.int ((k + 1 : Nat) : Int)), .val (.list ((LX R b [s, g]).map PyData.int)), .val (.list ((LY R b [s, g]).map PyData.int)), .val (kD [x, y, q]), .val (.list ((stL (LX R b [s, g]) (LY R b [s, g]) [x, y, q]).map pD)), .val (.int t.1), .val (.int t.2), .val (kD (toL [x, y, q] t)), .no], none⟩) := sPutY_ev (k := toL [x, y, q] t) rfl rfl rfl hne' nn hm (by omega)
            have p2 : (sApp 5 (eVar 13)) (⟨[.val (rmD R), .val (rcsD b), .val (sdD s), .val (sdD g), .own (.dict (entK (o' ++ [toL [x, y, q] t]))), .own (.list (o'.map kD)), .val (.int ((k + 1 : Nat) : Int)), .val (.list ((LX R b [s, g]).map PyData.int)), .val (.list ((LY R b [s, g]).map PyData.int)), .val (kD [x, y, q]), .val (.list ((stL (LX R b [s, g]) (LY R b [s, g]) [x, y, q]).map pD)), .val (.int t.1), .val (.int t.2), .val (kD (toL [x, y, q] t)), .no], none⟩ : S) = some (.next, TS R b s g (o' ++ [toL [x, y, q] t]) ((k + 1 : Nat) : Int) (.val (kD [x, y, q])) (.val (.list ((stL (LX R b [s, g]) (LY R b [s, g]) [x, y, q]).map pD))) (.val (.int t.1)) (.val (.int t.2)) (.val (kD (toL [x, y, q] t)))) := by
              have := sApp_ev (i := 5) (f := eVar 13) (d := kD (toL [x, y, q] t)) (s := ⟨[.val (rmD R), .val (rcsD b), .val (sdD s), .val (sdD g), .own (.dict (entK (o' ++ [toL [x, y, q] t]))), .own (.list (o'.map kD)), .val (.int ((k + 1 : Nat) : Int)), .val (.list ((LX R b [s, g]).map PyData.int)), .val (.list ((LY R b [s, g]).map PyData.int)), .val (kD [x, y, q]), .val (.list ((stL (LX R b [s, g]) (LY R b [s, g]) [x, y, q]).map pD)), .val (.int t.1), .val (.int t.2), .val (kD (toL [x, y, q] t)), .no], none⟩) (ds0 := o'.map kD) (ds := o'.map kD) rfl rfl rfl (by rw [List.length_map]; omega)
              refine this.trans ?_
              unfold TS
              rw [List.map_append]
              rfl
            refine ⟨_, _, rfl, .inl (sSeq_ev b1 (sIf_t b2 (sSeq_ev p1 p2))), o' ++ [toL [x, y, q] t], ⟨_, _, _, rfl⟩, ?_, fun l hl => ?_, by rw [List.length_append, List.length_append, List.length_singleton]; simp; omega⟩
            · rw [eo] at hm ⊢
              exact (step_new _ _ _ _ _ hsl hm).symm
            · rcases List.mem_append.mp hl with z | z
              · exact hne' l z
              · rw [List.mem_singleton] at z
                subst z
                exact nn)
    refine ⟨_, (fun z => nomatch z), fun _ => ⟨sSeq_ev a1 (sSeq_ev a2 (sSeq_ev (sIf_f a3 rfl) (sSeq_ev a4 (sSeq_ev a5 (sFrz_ev rfl e2))))), .val (kD [x, y, q]), .val (.list ((stL (LX R b [s, g]) (LY R b [s, g]) [x, y, q]).map pD)), c11', c12', c13', ?_⟩⟩
    rw [ho]
    rfl
end
end Fx
namespace Fx
open PySem PySem.Spec L2
def uni (R : Rm) (b : List Rc) (q : Int) : List (List Int) := (rng (-frm b) (R.w + frm b + 1)).flatMap fun x => (rng (-frm b) (R.h + frm b + 1)).map fun y => [x, y, q]
theorem uni_mem {R : Rm} {b : List Rc} {q x y : Int} (hb : okB b) (h : std R b ⟨x, y, q⟩ = true) : [x, y, q] ∈ uni R b q := by
  have r := std_range hb h
  exact List.mem_flatMap.mpr ⟨x, mem_rng.mpr (by omega), List.mem_map.mpr ⟨y, mem_rng.mpr (by omega), rfl⟩⟩
theorem std_okS {R : Rm} {b : List Rc} {q x y : Int} (hR : okR R) (hb : okB b) (hq : 0 ≤ q ∧ q < 4) (h : std R b ⟨x, y, q⟩ = true) : okS ⟨x, y, q⟩ := by
  have r := std_range hb h
  have f := frm_bd hb
  obtain ⟨a1, a2, a3, a4, _⟩ := id hR
  unfold okS
  dsimp only
  omega
end Fx

namespace Fx
open PySem PySem.Spec L2
/-! ### bodies grown -/
def gw (n : Int) (r : Rc) : Rc := ⟨r.a - n, r.b - n, r.c + n, r.d + n⟩
def grow (n : Int) (b : List Rc) : List Rc := b.map (gw n)
theorem quart_gw (n : Int) (r : Rc) : quart (gw n r) = gw n (quart r) := by
  unfold quart gw
  simp only [Rc.mk.injEq]
  refine ⟨by omega, trivial, by omega, trivial⟩
theorem turn_gw (n : Int) (b : List Rc) (q : Int) : turnB (grow n b) q = grow n (turnB b q) := by
  unfold turnB grow
  generalize rng 0 q = l
  induction l generalizing b with
  | nil => rfl
  | cons x l ih =>
    rw [List.foldl_cons, List.foldl_cons, ← ih]
    congr 1
    rw [List.map_map, List.map_map]
    exact List.map_congr_left fun r _ => quart_gw n r
theorem std_grow {R : Rm} {b : List Rc} {x y q n : Int} : std R (grow n b) ⟨x, y, q⟩ = true ↔ ∀ r ∈ turnB b q, fit R (gw n (shift x y r)) = true := by
  rw [std_say, turn_gw]
  have e : ∀ r : Rc, shift x y (gw n r) = gw n (shift x y r) := fun r => by
    unfold shift gw
    simp only [Rc.mk.injEq]
    omega
  constructor
  · intro h r hr
    rw [← e]
    exact h _ (List.mem_map.mpr ⟨r, hr, rfl⟩)
  · intro h r' hr'
    obtain ⟨r, hr, rfl⟩ := List.mem_map.mp hr'
    rw [e]
    exact h r hr
theorem grow0 (b : List Rc) : grow 0 b = b := by
  unfold grow
  have : gw 0 = id := by
    funext r
    unfold gw
    simp
  rw [this, List.map_id]
theorem gcomp_ev (b : List Rc) (n : Int) (hl : b.length ≤ 100000) : eComp (iterS (eVar 0)) (gNm 2) (eC (.bool true)) [2] (pEmit (eTup (aCons (eBin subD (eBin ixD (eVar 2) (eC (.int 0))) (eVar 1)) (aCons (eBin subD (eBin ixD (eVar 2) (eC (.int 1))) (eVar 1)) (aCons (eBin addD (eBin ixD (eVar 2) (eC (.int 2))) (eVar 1)) (aCons (eBin addD (eBin ixD (eVar 2) (eC (.int 3))) (eVar 1)) (aNil))))))) ⟨[.val (rcsD b), .val (.int n), .no], none⟩ = some (.list (b.map fun r => rcD (gw n r)), ⟨[.val (rcsD b), .val (.int n), .no], none⟩) := map_ev b rcD (fun r => rcD (gw n r)) rfl rfl rfl (fun r _ => ⟨_, rfl, rfl, rfl⟩) hl
/-! ### how much room there is -/
def mx2 (i j : Int) : Int := if j > i then j else i
def gapI (r s : Rc) : Int := mx2 (mx2 (mx2 (r.a - s.c) (s.a - r.c)) (mx2 (r.b - s.d) (s.b - r.d))) 0
theorem gap_ev (r s : Rc) : g_gap_between [rcD r, rcD s] = some (.int (gapI r s)) := rfl
def roomL (R : Rm) (b : List Rc) (s : Sd) : List Int := (plc b s).flatMap fun r => [r.a, r.b, R.w - r.c, R.h - r.d] ++ R.bl.map (gapI r)
def clr (R : Rm) (b : List Rc) (s : Sd) : Int := minI (roomL R b s)
theorem plc_mem {b : List Rc} {x y q : Int} {r : Rc} : r ∈ plc b ⟨x, y, q⟩ ↔ ∃ r0 ∈ turnB b q, r = shift x y r0 := by
  unfold plc
  rw [List.mem_map]
  constructor
  · rintro ⟨r0, h, rfl⟩; exact ⟨r0, h, rfl⟩
  · rintro ⟨r0, h, rfl⟩; exact ⟨r0, h, rfl⟩
theorem roomL_ne {R : Rm} {b : List Rc} (hb : b ≠ []) (s : Sd) : roomL R b s ≠ [] := by
  unfold roomL plc
  have := turn_ne hb s.t
  cases e : turnB b s.t with
  | nil => exact absurd e this
  | cons r l => simp
theorem clr_iff {R : Rm} {b : List Rc} (hb : b ≠ []) {x y q : Int} (hs : std R b ⟨x, y, q⟩ = true) {n : Int} (hn : 0 ≤ n) : n ≤ clr R b ⟨x, y, q⟩ ↔ std R (grow n b) ⟨x, y, q⟩ = true := by
  have m := minI_is (roomL_ne (R := R) hb ⟨x, y, q⟩)
  have all : n ≤ clr R b ⟨x, y, q⟩ ↔ ∀ v ∈ roomL R b ⟨x, y, q⟩, n ≤ v := ⟨fun h v hv => Int.le_trans h (m.2 v hv), fun h => h _ m.1⟩
  rw [all, std_grow]
  rw [std_say] at hs
  constructor
  · intro h r hr
    have f := fit_say.mp (hs r hr)
    have ent : ∀ v ∈ [(shift x y r).a, (shift x y r).b, R.w - (shift x y r).c, R.h - (shift x y r).d] ++ R.bl.map (gapI (shift x y r)), n ≤ v := fun v hv => h v (List.mem_flatMap.mpr ⟨shift x y r, plc_mem.mpr ⟨r, hr, rfl⟩, hv⟩)
    rw [fit_say]
    generalize shift x y r = r' at *
    have e1 := ent r'.a (by simp)
    have e2 := ent r'.b (by simp)
    have e3 := ent (R.w - r'.c) (by simp)
    have e4 := ent (R.h - r'.d) (by simp)
    unfold gw
    dsimp only
    refine ⟨by omega, fun s hs' z => ?_⟩
    have g := ent (gapI r' s) (List.mem_append_right _ (List.mem_map.mpr ⟨s, hs', rfl⟩))
    have f2 := f.2 s hs'
    unfold gapI mx2 at g
    by_cases h0 : n = 0
    · subst h0
      exact f2 (by omega)
    · (repeat' split at g) <;> omega
  · intro h v hv
    obtain ⟨r', hr', hv⟩ := List.mem_flatMap.mp hv
    obtain ⟨r, hr, rfl⟩ := plc_mem.mp hr'
    have f := fit_say.mp (h r hr)
    generalize shift x y r = r' at *
    unfold gw at f
    dsimp only at f
    obtain ⟨f1, f2⟩ := f
    rcases List.mem_append.mp hv with hv | hv
    · simp only [List.mem_cons, List.not_mem_nil, or_false] at hv
      rcases hv with rfl | rfl | rfl | rfl <;> omega
    · obtain ⟨s, hs', rfl⟩ := List.mem_map.mp hv
      have f3 := f2 s hs'
      unfold gapI mx2
      (repeat' split) <;> omega
theorem clr_nonneg {R : Rm} {b : List Rc} (hb : b ≠ []) {x y q : Int} (hs : std R b ⟨x, y, q⟩ = true) : 0 ≤ clr R b ⟨x, y, q⟩ := (clr_iff hb hs (Int.le_refl 0)).mpr (by rw [grow0]; exact hs)
theorem room_at_ev (R : Rm) (b : List Rc) (s : Sd) (hR : okR R) (hb : okB b) (hs : okS s) : g_room_at [rmD R, rcsD b, sdD s] = some (.int (clr R b s)) := by
  have hbl : b.length ≤ 100000 := by have := hb.2.1; omega
  have hne : b ≠ [] := fun e => by have := hb.1; rw [e] at this; simp at this
  obtain ⟨t1, t2⟩ := placed_ev b s ⟨hs.2.2.2.2.1, by have := hs.2.2.2.2.2; omega⟩ hbl
  have h16 := hR.2.2.2.2.1
  have h6 := hb.2.1
  have ln : ∀ pre : List Rc, (pre.flatMap fun r => [r.a, r.b, R.w - r.c, R.h - r.d] ++ R.bl.map (gapI r)).length ≤ pre.length * 20 := fun pre => flat_len fun r _ => by simp; omega
  refine fnV_ex ?_
  refine seq_ex (P := fun st => st = ⟨[.val (rmD R), .val (rcsD b), .val (sdD s), .no, .no, .val (.int R.w), .val (.int R.h), .val (rcsD R.bl), .no], none⟩) (ex_of rfl rfl) ?_
  rintro _ rfl
  refine seq_ex (P := fun st => st = ⟨[.val (rmD R), .val (rcsD b), .val (sdD s), .own (.list []), .no, .val (.int R.w), .val (.int R.h), .val (rcsD R.bl), .no], none⟩) (ex_of rfl rfl) ?_
  rintro _ rfl
  refine seq_ex (for_pre (plc b s) rcD (fun pre st => ∃ c4, st = ⟨[.val (rmD R), .val (rcsD b), .val (sdD s), .own (.list ((pre.flatMap fun r => [r.a, r.b, R.w - r.c, R.h - r.d] ++ R.bl.map (gapI r)).map PyData.int)), c4, .val (.int R.w), .val (.int R.h), .val (rcsD R.bl), .no], none⟩) (s1 := ⟨[.val (rmD R), .val (rcsD b), .val (sdD s), .own (.list []), .no, .val (.int R.w), .val (.int R.h), .val (rcsD R.bl), .no], none⟩) (iterS_ev (eFn_ev (xs := [rcsD b, sdD s]) rfl rfl t1) rfl) ⟨_, rfl⟩ ?_) ?_
  · rintro pre r suf _ hall ⟨c4, rfl⟩
    have hp : pre.length < 6 := by have := congrArg List.length hall; rw [List.length_append, List.length_cons] at this; omega
    have lp := ln pre
    have a1 := sExt_ev (i := 3) (f := eLst (aCons (eBin ixD (eVar 4) (eC (.int 0))) (aCons (eBin ixD (eVar 4) (eC (.int 1))) (aCons (eBin subD (eVar 5) (eBin ixD (eVar 4) (eC (.int 2)))) (aCons (eBin subD (eVar 6) (eBin ixD (eVar 4) (eC (.int 3)))) (aNil)))))) (s := ⟨[.val (rmD R), .val (rcsD b), .val (sdD s), .own (.list ((pre.flatMap fun r => [r.a, r.b, R.w - r.c, R.h - r.d] ++ R.bl.map (gapI r)).map PyData.int)), .val (rcD r), .val (.int R.w), .val (.int R.h), .val (rcsD R.bl), .no], none⟩) (ds := (pre.flatMap fun r => [r.a, r.b, R.w - r.c, R.h - r.d] ++ R.bl.map (gapI r)).map PyData.int) (es := [r.a, r.b, R.w - r.c, R.h - r.d].map PyData.int) rfl rfl (by rw [List.length_map, List.length_map]; simp only [List.length_cons, List.length_nil]; omega)
    have q := map_ev (fi := iterS (eVar 7)) (g := gNm 8) (f := eFn 2 g_gap_between (aCons (eVar 4) (aCons (eVar 8) (aNil)))) (vs := [8]) (s := ⟨[.val (rmD R), .val (rcsD b), .val (sdD s), .own (.list ((pre.flatMap fun r => [r.a, r.b, R.w - r.c, R.h - r.d] ++ R.bl.map (gapI r)).map PyData.int ++ [r.a, r.b, R.w - r.c, R.h - r.d].map PyData.int)), .val (rcD r), .val (.int R.w), .val (.int R.h), .val (rcsD R.bl), .no], none⟩) (s1 := ⟨[.val (rmD R), .val (rcsD b), .val (sdD s), .own (.list ((pre.flatMap fun r => [r.a, r.b, R.w - r.c, R.h - r.d] ++ R.bl.map (gapI r)).map PyData.int ++ [r.a, r.b, R.w - r.c, R.h - r.d].map PyData.int)), .val (rcD r), .val (.int R.w), .val (.int R.h), .val (rcsD R.bl), .no], none⟩) R.bl rcD (fun t => .int (gapI r t)) rfl rfl rfl (fun t _ => ⟨_, rfl, eFn_ev rfl rfl (gap_ev r t), rfl⟩) (by omega)
    have a2 := sExt_ev (i := 3) (ds := (pre.flatMap fun r => [r.a, r.b, R.w - r.c, R.h - r.d] ++ R.bl.map (gapI r)).map PyData.int ++ [r.a, r.b, R.w - r.c, R.h - r.d].map PyData.int) rfl q (by rw [List.length_append, List.length_map, List.length_map, List.length_map]; simp only [List.length_cons, List.length_nil]; omega)
    refine ⟨_, _, rfl, .inl (sSeq_ev a1 a2), .val (rcD r), ?_⟩
    have e : (pre.flatMap fun r => [r.a, r.b, R.w - r.c, R.h - r.d] ++ R.bl.map (gapI r)).map PyData.int ++ [r.a, r.b, R.w - r.c, R.h - r.d].map PyData.int ++ R.bl.map (fun t => PyData.int (gapI r t)) = ((pre ++ [r]).flatMap fun r => [r.a, r.b, R.w - r.c, R.h - r.d] ++ R.bl.map (gapI r)).map PyData.int := by
      rw [List.flatMap_append, List.flatMap_singleton, List.map_append, List.map_append, List.append_assoc, List.map_map]
      rfl
    rw [← e]
    rfl
  · rintro _ ⟨c4, rfl⟩
    refine ex_of (sFrz_ev rfl (sRet_ev (eCall_ev (xs := [.list ((roomL R b s).map PyData.int)]) rfl ?_))) rfl
    have e2 := intsD_map (fun n : Int => n) (roomL R b s)
    simp only [List.map_id'] at e2
    show (intsD ((roomL R b s).map PyData.int)).bind _ = _
    rw [e2, Option.bind_some, if_neg (roomL_ne hne s)]
    rfl
end Fx
namespace Fx
open PySem PySem.Spec L2
/-! ### the six bodies -/
def six : List (List Rc) := [[⟨0, 0, 1, 1⟩], [⟨-1, -1, 1, 1⟩], [⟨0, 0, 2, 1⟩], [⟨-1, 0, 1, 1⟩], [⟨0, 0, 2, 1⟩, ⟨0, 0, 1, 2⟩], [⟨-1, 0, 0, 1⟩, ⟨1, 0, 2, 1⟩]]
theorem six_len : ∀ b ∈ six, ∀ n ∈ ([0, 1, 2, 3] : List Int), ((grow n b).flatMap sqL).length ≤ 4000 ∧ (dd ((grow n b).flatMap sqL)).length ≤ 76 := by decide +kernel
theorem six_ok {b : List Rc} (hb : b ∈ six) {n : Int} (h : 0 ≤ n ∧ n ≤ 6) : okB (grow n b) := by
  simp only [six, List.mem_cons, List.not_mem_nil, or_false] at hb
  rcases hb with rfl | rfl | rfl | rfl | rfl | rfl <;>
    (refine ⟨by simp [grow], by simp [grow], fun r hr => ?_⟩
     simp only [grow, List.map_cons, List.map_nil, List.mem_cons, List.not_mem_nil, or_false] at hr
     first
      | (rcases hr with rfl | rfl <;> (unfold gw; dsimp only; omega))
      | (subst hr; unfold gw; dsimp only; omega))
theorem six_okB {b : List Rc} (hb : b ∈ six) : okB b := by
  have := six_ok hb (n := 0) (by omega)
  rwa [grow0] at this
section
variable {R : Rm} {os : List (List Int)} {b : List Rc}
theorem ok_ne (hb : okB b) : b ≠ [] := fun e => by have := hb.1; rw [e] at this; simp at this
theorem clr_le (hb : okB b) {x y q : Int} (hw : R.w ≤ 6) (hs : std R b ⟨x, y, q⟩ = true) : clr R b ⟨x, y, q⟩ ≤ 2 := by
  have hne := ok_ne hb
  have h0 := clr_nonneg hne hs
  have h := std_grow.mp ((clr_iff hne hs h0).mp (Int.le_refl _))
  obtain ⟨r, hr⟩ := List.exists_mem_of_ne_nil _ (turn_ne hne q)
  have p := turn_prop hb q r hr
  have := fit_bd (h r hr)
  unfold gw shift at this
  unfold prop at p
  dsimp only at this
  omega
end
/-! ### rows of standings -/
def SL (R : Rm) (b : List Rc) (n : Int) (s s' : Sd) : Prop := sld R (grow n b) s (s'.x - s.x) (s'.y - s.y) = true
def StepOk (R : Rm) (b : List Rc) (s s' : Sd) : Prop := ((s'.x - s.x = 0 ∧ s'.y - s.y ≠ 0) ∨ (s'.x - s.x ≠ 0 ∧ s'.y - s.y = 0)) ∧ sld R b s (s'.x - s.x) (s'.y - s.y) = true
structure Way (R : Rm) (b : List Rc) (q : Int) (row : List Sd) : Prop where
  ne : row ≠ []
  ok : ∀ s ∈ row, okS s ∧ std R b s = true ∧ s.t = q
  st : ∀ (i : Nat) (s s' : Sd), row[i]? = some s → row[i + 1]? = some s' → StepOk R b s s'
  ln : row.length ≤ 1000
def Aw (R : Rm) (b : List Rc) (n : Int) (row : List Sd) (m : Nat) : Prop := (∀ s, row[0]? = some s → std R (grow n b) s = true) ∧ ∀ (i : Nat) (s s' : Sd), i < m → row[i]? = some s → row[i + 1]? = some s' → SL R b n s s'
theorem sld_mono {R : Rm} {b : List Rc} {s : Sd} {x y m n : Int} (h : m ≤ n) (hs : sld R (grow n b) s x y = true) : sld R (grow m b) s x y = true := by
  obtain ⟨sx, sy, q⟩ := s
  unfold sld at *
  rw [List.all_eq_true] at *
  intro r hr
  rw [plc_mem, turn_gw] at hr
  obtain ⟨r0, hr0, rfl⟩ := hr
  obtain ⟨r1, hr1, rfl⟩ := List.mem_map.mp hr0
  have := hs (shift sx sy (gw n r1)) (plc_mem.mpr ⟨gw n r1, by rw [turn_gw]; exact List.mem_map.mpr ⟨r1, hr1, rfl⟩, rfl⟩)
  rw [fit_say] at *
  unfold ext shift gw at *
  dsimp only at *
  obtain ⟨a, c⟩ := this
  refine ⟨by omega, fun t ht z => c t ht (by omega)⟩
theorem ixS {row : List Sd} {i : Nat} {s : Sd} (e : row[i]? = some s) : ixD (.list (row.map sdD)) (.int (i : Nat)) = some (sdD s) := by
  show atI (row.map sdD) (i : Nat) = _
  have hl : i < row.length := by
    rw [List.getElem?_eq_some_iff] at e
    exact e.1
  unfold atI ixN
  rw [if_pos (by omega), if_pos (by rw [List.length_map]; omega), Option.bind_some, List.getElem?_map, Int.toNat_natCast, e]
  rfl
theorem eqZ_ev (a b : Int) : eqD (.int a) (.int b) = some (.bool (a == b)) := by
  show (if _ ∧ _ then some (PyData.bool (a == b)) else none) = _
  rw [if_pos ⟨rfl, rfl⟩]
theorem neZ_ev2 (a b : Int) : neD (.int a) (.int b) = some (.bool (!(a == b))) := by
  show (if _ ∧ _ then some (PyData.bool (!(a == b))) else none) = _
  rw [if_pos ⟨rfl, rfl⟩]
theorem eq_nilS (row : List Sd) (h : row ≠ []) : eqD (.list (row.map sdD)) (.list []) = some (.bool false) := by
  have e : row.map sdD = (row.map fun s => [s.x, s.y, s.t]).map kD := by rw [List.map_map]; rfl
  rw [e]
  unfold eqD
  rw [if_pos ⟨shaped_rows _, by decide +kernel⟩]
  cases row with
  | nil => exact absurd rfl h
  | cons s r => rfl
end Fx

namespace Fx
open PySem PySem.Spec L2
def uniU (R : Rm) (b : List Rc) : List (List Int) := (rng (-frm b) (R.w + frm b + 1)).flatMap fun x => (rng (-frm b) (R.h + frm b + 1)).map fun y => [x, y]
theorem U_form {R : Rm} {b : List Rc} {q sx sy : Int} (hs : std R b ⟨sx, sy, q⟩ = true) {k : List Int} (h : Rch (nbU R b q) [sx, sy] k) : ∃ x y, k = [x, y] ∧ std R b ⟨x, y, q⟩ = true := by
  cases h with
  | refl => exact ⟨sx, sy, rfl, hs⟩
  | step a c =>
    unfold nbU at c
    obtain ⟨c1, c2⟩ := List.mem_filter.mp c
    simp only [List.mem_cons, List.not_mem_nil, or_false] at c1
    rcases c1 with rfl | rfl | rfl | rfl <;> exact ⟨_, _, rfl, c2⟩
theorem loop_brk {α : Type} {g : Fg} {F : Fs} (enc : α → D) (I : List α → S → Prop) (P : S → Prop) {pre suf : List α} {x : α} (hs : ∀ p1 y p2 s, pre = p1 ++ y :: p2 → I p1 s → ∃ s1 s2, g (enc y) s = some s1 ∧ F s1 = some (.next, s2) ∧ I (p1 ++ [y]) s2) (hx : ∀ s, I pre s → ∃ s1 s2, g (enc x) s = some s1 ∧ F s1 = some (.brk, s2) ∧ P s2) :
    ∀ (rest done : List α) {s : S}, pre = done ++ rest → I done s → ∃ s', loopF g F ((rest ++ x :: suf).map enc) s = some (.next, s') ∧ P s'
  | [], done, s, e, hI => by
    rw [List.append_nil] at e
    subst e
    obtain ⟨s1, s2, h1, h2, h3⟩ := hx s hI
    refine ⟨s2, ?_, h3⟩
    rw [List.nil_append, List.map_cons]
    unfold loopF
    rw [h1, Option.bind_some, h2]
  | y :: rest, done, s, e, hI => by
    obtain ⟨s1, s2, h1, h2, h3⟩ := hs done y rest s e hI
    obtain ⟨s', h4, h5⟩ := loop_brk enc I P hs hx rest (done ++ [y]) (by rw [e]; simp) h3
    refine ⟨s', ?_, h5⟩
    rw [List.cons_append, List.map_cons]
    unfold loopF
    rw [h1, Option.bind_some, h2]
    exact h4
theorem Rch.trans' {α : Type} {nb : α → List α} {a c d : α} (h1 : Rch nb a c) (h2 : Rch nb c d) : Rch nb a d := by
  induction h2 with
  | refl => exact h1
  | step _ hy ih => exact .step ih hy
theorem U_sym {R : Rm} {b : List Rc} {q sx sy : Int} (hs : std R b ⟨sx, sy, q⟩ = true) {k : List Int} (h : Rch (nbU R b q) [sx, sy] k) : Rch (nbU R b q) k [sx, sy] := by
  induction h with
  | refl => exact .refl
  | step h1 hy ih =>
    obtain ⟨x, y, rfl, h3⟩ := U_form hs h1
    obtain ⟨u, v, rfl, h4⟩ := U_form hs (.step h1 hy)
    obtain ⟨hc, _⟩ := mem_nbU.mp hy
    have : Rch (nbU R b q) [u, v] [x, y] := .step .refl (mem_nbU.mpr ⟨by omega, h3⟩)
    exact this.trans' ih
theorem uni_small {R : Rm} {b : List Rc} (hb : okB b) (hR : okR R) (hw : R.w ≤ 9) (hh : R.h ≤ 7) (q : Int) : (uni R b q).length < 1000 ∧ (uniU R b).length < 1000 := by
  obtain ⟨f0, f8⟩ := frm_bd hb
  obtain ⟨a1, a2, a3, a4, _⟩ := id hR
  have n1 : (rng (-frm b) (R.w + frm b + 1)).length ≤ 26 := by rw [rng_len]; omega
  have n2 : (rng (-frm b) (R.h + frm b + 1)).length ≤ 24 := by rw [rng_len]; omega
  constructor
  · have := flat_len (f := fun x => (rng (-frm b) (R.h + frm b + 1)).map fun y => [x, y, q]) (m := 24) (xs := rng (-frm b) (R.w + frm b + 1)) fun x _ => by rw [List.length_map]; exact n2
    unfold uni
    omega
  · have := flat_len (f := fun x => (rng (-frm b) (R.h + frm b + 1)).map fun y => [x, y]) (m := 24) (xs := rng (-frm b) (R.w + frm b + 1)) fun x _ => by rw [List.length_map]; exact n2
    unfold uniU
    omega
theorem rng_idx {lo hi x : Int} {pre suf : List Int} (e : rng lo hi = pre ++ x :: suf) : x = lo + pre.length := by
  have h : (rng lo hi)[pre.length]? = some x := by rw [e]; simp
  unfold rng at h
  rw [List.getElem?_map, Option.map_eq_some_iff] at h
  obtain ⟨k, hk, rfl⟩ := h
  obtain ⟨_, hk2⟩ := List.getElem?_eq_some_iff.mp hk
  rw [List.getElem_range] at hk2
  rw [hk2]
theorem min_le {i j : Int} : (if j < i then j else i) ≤ i ∧ (if j < i then j else i) ≤ j ∧ ∀ n, n ≤ (if j < i then j else i) ↔ n ≤ i ∧ n ≤ j := by
  split <;> refine ⟨by omega, by omega, fun n => by omega⟩
theorem mem_allS {R : Rm} {b : List Rc} {s : Sd} (h : s ∈ allS R b) : std R b s = true ∧ 0 ≤ s.t ∧ s.t < 4 := by
  unfold allS at h
  obtain ⟨x, _, h⟩ := List.mem_flatMap.mp h
  obtain ⟨y, _, h⟩ := List.mem_flatMap.mp h
  unfold lineS at h
  obtain ⟨q, hq, rfl⟩ := List.mem_map.mp h
  obtain ⟨h1, h2⟩ := List.mem_filter.mp hq
  exact ⟨h2, (mem_rng.mp h1).1, (mem_rng.mp h1).2⟩
theorem allS_len {R : Rm} {b : List Rc} (hR : okR R) (hb : okB b) : (allS R b).length ≤ 23716 := by
  obtain ⟨f0, f8⟩ := frm_bd hb
  obtain ⟨w1, w2, w3, w4, w5, _⟩ := id hR
  have n1 : (rng (-frm b) (R.w + frm b + 1)).length ≤ 77 := by rw [rng_len]; omega
  have n2 : (rng (-frm b) (R.h + frm b + 1)).length ≤ 77 := by rw [rng_len]; omega
  have := flat_len (f := fun x => (rng (-frm b) (R.h + frm b + 1)).flatMap fun y => lineS R b x y) (m := 308) (xs := rng (-frm b) (R.w + frm b + 1)) fun x _ => by
    have := flat_len (f := fun y => lineS R b x y) (m := 4) (xs := rng (-frm b) (R.h + frm b + 1)) fun y _ => lineS_len R b x y
    omega
  unfold allS
  omega
theorem ixLast (pre : List Sd) (s : Sd) : ixD (.list ((pre ++ [s]).map sdD)) (.int (-1)) = some (sdD s) := by
  show atI ((pre ++ [s]).map sdD) (-1) = _
  unfold atI ixN
  rw [if_neg (by decide), if_pos (by simp; omega)]
  rw [Option.bind_some, List.getElem?_map, List.length_map, List.length_append, List.length_singleton]
  have e : (-1 + ((pre.length + 1 : Nat) : Int)).toNat = pre.length := by omega
  rw [e]
  simp
theorem IxO_ev {i : Nat} {f : Fe} {s s1 : S} {y z : D} {ds0 ds : List D} (h0 : s.ownL i = some ds0) (h : f s = some (y, s1)) (h1 : s1.ownL i = some ds) (h2 : ixD (.list ds) y = some z) : eIxO i f s = some (z, s1) := by
  unfold eIxO
  rw [h0, Option.bind_some, h, Option.bind_some]
  dsimp only
  rw [h1, Option.bind_some, h2]
  rfl
theorem eqS_nil (row : List Sd) : eqD (.list (row.map sdD)) (.list []) = some (.bool (decide (row = []))) := by
  cases row with
  | nil => rfl
  | cons s r => rw [eq_nilS (s :: r) (List.cons_ne_nil _ _)]; simp
end Fx
-- k05m
namespace Fx
open PySem PySem.Spec L2
def room5 : D := .tuple [.int 5, .int 4, .tuple [.tuple [.int 1, .int 1, .int 3, .int 2]]]
def body5 : D := .tuple [.tuple [.int 0, .int 0, .int 1, .int 1]]
def odd1 : D := .list [.none, .int 5, .tuple [.int 0, .int 4, .tuple []], .tuple [.int 61, .int 4, .tuple []], .tuple [.int 5, .int 4], .list [.int 5, .int 4, .tuple []], .tuple [.int 5, .int 4, .list []], .tuple [.int 5, .int 4, .tuple [.tuple [.int 0, .int 0, .int 6, .int 1]]], .tuple [.int 5, .int 4, .tuple [.tuple [.int 1, .int 1, .int 1, .int 2]]]]
def odd2 : D := .list [.none, .int 5, .tuple [.int 0, .int 4, .tuple []], .tuple [.int 61, .int 4, .tuple []], .tuple [.int 5, .int 4], .list [.int 5, .int 4, .tuple []], .tuple [.int 5, .int 4, .list []], .tuple [.int 5, .int 4, .tuple [.tuple [.int 0, .int 0, .int 6, .int 1]]], .tuple [.int 5, .int 4, .tuple [.tuple [.int 1, .int 1, .int 1, .int 2]]], .tuple [.int 5, .int 4, .tuple [.tuple [.int 0, .int 0, .int 1]]], .tuple [.bool true, .int 4, .tuple []], .tuple [.int 5, .int 4, .tuple [.tuple [.int 0, .int 0, .int 1, .int 1], .tuple [.int 0, .int 0, .int 1, .int 1], .tuple [.int 0, .int 0, .int 1, .int 1], .tuple [.int 0, .int 0, .int 1, .int 1], .tuple [.int 0, .int 0, .int 1, .int 1], .tuple [.int 0, .int 0, .int 1, .int 1], .tuple [.int 0, .int 0, .int 1, .int 1], .tuple [.int 0, .int 0, .int 1, .int 1], .tuple [.int 0, .int 0, .int 1, .int 1], .tuple [.int 0, .int 0, .int 1, .int 1], .tuple [.int 0, .int 0, .int 1, .int 1], .tuple [.int 0, .int 0, .int 1, .int 1], .tuple [.int 0, .int 0, .int 1, .int 1], .tuple [.int 0, .int 0, .int 1, .int 1], .tuple [.int 0, .int 0, .int 1, .int 1], .tuple [.int 0, .int 0, .int 1, .int 1], .tuple [.int 0, .int 0, .int 1, .int 1]]], .tuple [.int 5, .int 4, .tuple [.tuple [.int (-1), .int 0, .int 1, .int 1]]], .tuple [.int 5, .int 4, .tuple [.none]]]
def odd3 : D := .list [.none, .int 5, .tuple [], .tuple [.tuple [.int 0, .int 0, .int 0, .int 1]], .list [.tuple [.int 0, .int 0, .int 1, .int 1]], .tuple [.tuple [.int 0, .int 0, .int 9, .int 1]], .tuple [.tuple [.int (-9), .int 0, .int 1, .int 1]], .tuple [.tuple [.int 0, .int 0, .int 1, .int 1], .tuple [.int 0, .int 0, .int 1, .int 1], .tuple [.int 0, .int 0, .int 1, .int 1], .tuple [.int 0, .int 0, .int 1, .int 1], .tuple [.int 0, .int 0, .int 1, .int 1], .tuple [.int 0, .int 0, .int 1, .int 1], .tuple [.int 0, .int 0, .int 1, .int 1]], .tuple [.tuple [.int 0, .int 0, .int 1, .bool true]]]
theorem law_at (t : Tw) (i j : Int) (t1 t2 : Tw) (e1 : g__law_draw t [.int 5] = some (.int i, t1)) (e2 : g__law_draw t1 [.int 5] = some (.int j, t2)) (hi : i ∈ [0, 1, 2, 3, 4]) (hj : j ∈ [0, 1, 2, 3, 4]) : isTrueOut (B_law ⟨[.any, .tn, .no, .no, .no, .no, .no, .no, .no, .no], some t⟩) = true := by
  have e : B_law ⟨[.any, .tn, .no, .no, .no, .no, .no, .no, .no, .no], some t⟩ = _ :=
    sSeq_ev (s1 := ⟨[.any, .tn, .no, .no, .no, .val room5, .val body5, .no, .no, .no], some t⟩) (by kernel_rfl) (
    sSeq_ev (s1 := ⟨[.any, .tn, .val odd1, .no, .no, .val room5, .val body5, .no, .no, .no], some t⟩) (by kernel_rfl) (
    sSeq_ev (s1 := ⟨[.any, .tn, .val odd2, .no, .no, .val room5, .val body5, .no, .no, .no], some t⟩) (by kernel_rfl) (
    sSeq_ev (s1 := ⟨[.any, .tn, .val odd2, .val (.tuple [.int 5, .int 4, .tuple [.none]]), .no, .val room5, .val body5, .no, .no, .no], some t⟩) (by kernel_rfl) (
    sSeq_ev (s1 := ⟨[.any, .tn, .val odd3, .val (.tuple [.int 5, .int 4, .tuple [.none]]), .no, .val room5, .val body5, .no, .no, .no], some t⟩) (by kernel_rfl) (
    sSeq_ev (s1 := ⟨[.any, .tn, .val odd3, .val (.tuple [.tuple [.int 0, .int 0, .int 1, .bool true]]), .no, .val room5, .val body5, .no, .no, .no], some t⟩) (by kernel_rfl) (
    sSeq_ev (s1 := ⟨[.any, .tn, .val odd3, .val (.tuple [.int 0, .int 0, .none]), .no, .val room5, .val body5, .no, .no, .no], some t⟩) (by kernel_rfl) (
    sSeq_ev (s1 := ⟨[.any, .tn, .val odd3, .val (.tuple [.int 4, .int 4, .int 0]), .no, .val room5, .val body5, .no, .no, .no], some t⟩) (by kernel_rfl) (
    sSeq_ev (s1 := ⟨[.any, .tn, .val odd3, .val (.tuple [.int 4, .int 4, .int 0]), .val (.tuple [.int i, .int j, .int 0]), .val room5, .val body5, .no, .no, .no], some t2⟩) (((sSet_ev (s1 := ⟨[.any, .tn, .val odd3, .val (.tuple [.int 4, .int 4, .int 0]), .no, .val room5, .val body5, .no, .no, .no], some t2⟩) (eTup_ev (xs := [.int i, .int j, .int 0]) (aCons_ev (eFnT_ev (rho := [.any, .tn, .val odd3, .val (.tuple [.int 4, .int 4, .int 0]), .no, .val room5, .val body5, .no, .no, .no]) rfl (xs := [.int 5]) rfl rfl e1) (aCons_ev (eFnT_ev (rho := [.any, .tn, .val odd3, .val (.tuple [.int 4, .int 4, .int 0]), .no, .val room5, .val body5, .no, .no, .no]) rfl (xs := [.int 5]) rfl rfl e2) (aOne_ev rfl))) (by simp)))).trans rfl) rfl))))))))
  rw [e]
  clear e e1 e2
  generalize odd3 = od
  simp only [List.mem_cons, List.not_mem_nil, or_false] at hi hj
  rcases hi with rfl | rfl | rfl | rfl | rfl <;> rcases hj with rfl | rfl | rfl | rfl | rfl <;> kernel_rfl
theorem law_true (ns : List Int) (h63 : ns.length ≤ 63) : isTrueOut (B_law (stLaw 10 ns)) = true := by
  have ot : okT (rowOf ns, 0) := by
    unfold okT rowOf
    dsimp only
    split
    · exact fun z => nomatch z
    · assumption
  obtain ⟨i, t1, e1, hi, hi', ot1⟩ := draw ot 5 (by decide)
  obtain ⟨j, t2, e2, hj, hj', ot2⟩ := draw ot1 5 (by decide)
  have five : ∀ n : Int, 0 ≤ n → n < 5 → n ∈ [(0 : Int), 1, 2, 3, 4] := fun n h1 h2 => by
    simp only [List.mem_cons, List.not_mem_nil, or_false]
    omega
  exact law_at _ i j t1 t2 e1 e2 (five i hi hi') (five j hj hj')
end Fx
-- k05w
namespace Fx
open PySem PySem.Spec L2
/-! ### the text -/
def topS (i : Nat) : Stmt := PySem.Challenge.pw_moveways_k05_standings_refused.main.body.getD i (.Pass ⟨0, 0, 0, 0⟩)
def iniS (i : Nat) : Stmt := match topS i with
  | .ClassDef _ _ _ (b :: _) _ _ _ _ _ _ _ => b
  | s => s
structure Fc (K : PySem.W.Frag) (mg : Str → Option Value) where
  f__law_town : Addr
  fd__law_town : FuncData
  F__law_town : Fun K "_law_town" "_law_town" (topS 69) f__law_town fd__law_town
  m__law_town : mg "_law_town" = some (.ref f__law_town)
  b__law_town : Binds K fd__law_town ["script"] []
  f__law_draw : Addr
  fd__law_draw : FuncData
  F__law_draw : Fun K "_law_draw" "_law_draw" (topS 70) f__law_draw fd__law_draw
  m__law_draw : mg "_law_draw" = some (.ref f__law_draw)
  b__law_draw : Binds K fd__law_draw ["town", "count"] []
  f__law_refusal : Addr
  fd__law_refusal : FuncData
  F__law_refusal : Fun K "_law_refusal" "_law_refusal" (topS 71) f__law_refusal fd__law_refusal
  m__law_refusal : mg "_law_refusal" = some (.ref f__law_refusal)
  b__law_refusal : Binds K fd__law_refusal ["caught"] []
  f_is_whole : Addr
  fd_is_whole : FuncData
  F_is_whole : Fun K "is_whole" "is_whole" (topS 10) f_is_whole fd_is_whole
  m_is_whole : mg "is_whole" = some (.ref f_is_whole)
  b_is_whole : Binds K fd_is_whole ["thing", "low", "high"] []
  f_is_rect : Addr
  fd_is_rect : FuncData
  F_is_rect : Fun K "is_rect" "is_rect" (topS 15) f_is_rect fd_is_rect
  m_is_rect : mg "is_rect" = some (.ref f_is_rect)
  b_is_rect : Binds K fd_is_rect ["thing", "low", "high"] []
  f_is_room : Addr
  fd_is_room : FuncData
  F_is_room : Fun K "is_room" "is_room" (topS 16) f_is_room fd_is_room
  m_is_room : mg "is_room" = some (.ref f_is_room)
  b_is_room : Binds K fd_is_room ["thing"] []
  f_look_room : Addr
  fd_look_room : FuncData
  F_look_room : Fun K "look_room" "look_room" (topS 17) f_look_room fd_look_room
  m_look_room : mg "look_room" = some (.ref f_look_room)
  b_look_room : Binds K fd_look_room ["thing"] []
  f_is_body : Addr
  fd_is_body : FuncData
  F_is_body : Fun K "is_body" "is_body" (topS 23) f_is_body fd_is_body
  m_is_body : mg "is_body" = some (.ref f_is_body)
  b_is_body : Binds K fd_is_body ["thing"] []
  f_look_body : Addr
  fd_look_body : FuncData
  F_look_body : Fun K "look_body" "look_body" (topS 24) f_look_body fd_look_body
  m_look_body : mg "look_body" = some (.ref f_look_body)
  b_look_body : Binds K fd_look_body ["thing"] []
  f_look_all : Addr
  fd_look_all : FuncData
  F_look_all : Fun K "look_all" "look_all" (topS 32) f_look_all fd_look_all
  m_look_all : mg "look_all" = some (.ref f_look_all)
  b_look_all : Binds K fd_look_all ["room", "body"] []
  f_is_standing : Addr
  fd_is_standing : FuncData
  F_is_standing : Fun K "is_standing" "is_standing" (topS 30) f_is_standing fd_is_standing
  m_is_standing : mg "is_standing" = some (.ref f_is_standing)
  b_is_standing : Binds K fd_is_standing ["thing"] []
  f_look_standing : Addr
  fd_look_standing : FuncData
  F_look_standing : Fun K "look_standing" "look_standing" (topS 31) f_look_standing fd_look_standing
  m_look_standing : mg "look_standing" = some (.ref f_look_standing)
  b_look_standing : Binds K fd_look_standing ["thing"] []
  f_overlap : Addr
  fd_overlap : FuncData
  F_overlap : Fun K "overlap" "overlap" (topS 18) f_overlap fd_overlap
  m_overlap : mg "overlap" = some (.ref f_overlap)
  b_overlap : Binds K fd_overlap ["one", "other"] []
  f_fits : Addr
  fd_fits : FuncData
  F_fits : Fun K "fits" "fits" (topS 19) f_fits fd_fits
  m_fits : mg "fits" = some (.ref f_fits)
  b_fits : Binds K fd_fits ["room", "rect"] []
  f_quarter : Addr
  fd_quarter : FuncData
  F_quarter : Fun K "quarter" "quarter" (topS 25) f_quarter fd_quarter
  m_quarter : mg "quarter" = some (.ref f_quarter)
  b_quarter : Binds K fd_quarter ["rect"] []
  f_turned_by : Addr
  fd_turned_by : FuncData
  F_turned_by : Fun K "turned_by" "turned_by" (topS 26) f_turned_by fd_turned_by
  m_turned_by : mg "turned_by" = some (.ref f_turned_by)
  b_turned_by : Binds K fd_turned_by ["body", "turns"] []
  f_placed : Addr
  fd_placed : FuncData
  F_placed : Fun K "placed" "placed" (topS 33) f_placed fd_placed
  m_placed : mg "placed" = some (.ref f_placed)
  b_placed : Binds K fd_placed ["body", "standing"] []
  f_stands : Addr
  fd_stands : FuncData
  F_stands : Fun K "stands" "stands" (topS 34) f_stands fd_stands
  m_stands : mg "stands" = some (.ref f_stands)
  b_stands : Binds K fd_stands ["room", "body", "standing"] []
  f_look_free : Addr
  fd_look_free : FuncData
  F_look_free : Fun K "look_free" "look_free" (topS 36) f_look_free fd_look_free
  m_look_free : mg "look_free" = some (.ref f_look_free)
  b_look_free : Binds K fd_look_free ["room", "body", "standing"] []
  f_slides : Addr
  fd_slides : FuncData
  F_slides : Fun K "slides" "slides" (topS 37) f_slides fd_slides
  m_slides : mg "slides" = some (.ref f_slides)
  b_slides : Binds K fd_slides ["room", "body", "standing", "x", "y"] []
  f_farthest_slide : Addr
  fd_farthest_slide : FuncData
  F_farthest_slide : Fun K "farthest_slide" "farthest_slide" (topS 41) f_farthest_slide fd_farthest_slide
  m_farthest_slide : mg "farthest_slide" = some (.ref f_farthest_slide)
  b_farthest_slide__x : KBo K fd_farthest_slide ["room", "body", "standing", "x", "y"] 3 ["x"] .pkm [0]
  b_farthest_slide : KBn K fd_farthest_slide ["room", "body", "standing", "x", "y"] 3 ["x", "y"] (· ++ ·) (· ++ ·)
  f_may_slide : Addr
  fd_may_slide : FuncData
  F_may_slide : Fun K "may_slide" "may_slide" (topS 38) f_may_slide fd_may_slide
  m_may_slide : mg "may_slide" = some (.ref f_may_slide)
  b_may_slide__ : ∃ ds, Vals ([0, 0].map V.int) ds ∧ Binds K fd_may_slide ["room", "body", "standing", "x", "y"] ds
  b_may_slide : KBn K fd_may_slide ["room", "body", "standing", "x", "y"] 3 ["x", "y"] (· ++ ·) (· ++ ·)
  f__law_slide : Addr
  fd__law_slide : FuncData
  F__law_slide : Fun K "_law_slide" "_law_slide" (topS 74) f__law_slide fd__law_slide
  m__law_slide : mg "_law_slide" = some (.ref f__law_slide)
  b__law_slide : Binds K fd__law_slide ["one", "px", "py", "far"] []
  f_frame_of : Addr
  fd_frame_of : FuncData
  F_frame_of : Fun K "frame_of" "frame_of" (topS 27) f_frame_of fd_frame_of
  m_frame_of : mg "frame_of" = some (.ref f_frame_of)
  b_frame_of : Binds K fd_frame_of ["body"] []
  f_turns_at : Addr
  fd_turns_at : FuncData
  F_turns_at : Fun K "turns_at" "turns_at" (topS 39) f_turns_at fd_turns_at
  m_turns_at : mg "turns_at" = some (.ref f_turns_at)
  b_turns_at : Binds K fd_turns_at ["room", "body", "x", "y"] []
  f_may_turn : Addr
  fd_may_turn : FuncData
  F_may_turn : Fun K "may_turn" "may_turn" (topS 40) f_may_turn fd_may_turn
  m_may_turn : mg "may_turn" = some (.ref f_may_turn)
  b_may_turn : Binds K fd_may_turn ["room", "body", "standing"] []
  f_gap_between : Addr
  fd_gap_between : FuncData
  F_gap_between : Fun K "gap_between" "gap_between" (topS 65) f_gap_between fd_gap_between
  m_gap_between : mg "gap_between" = some (.ref f_gap_between)
  b_gap_between : Binds K fd_gap_between ["one", "other"] []
  f_room_at : Addr
  fd_room_at : FuncData
  F_room_at : Fun K "room_at" "room_at" (topS 66) f_room_at fd_room_at
  m_room_at : mg "room_at" = some (.ref f_room_at)
  b_room_at : Binds K fd_room_at ["room", "body", "standing"] []
  f_clearance : Addr
  fd_clearance : FuncData
  F_clearance : Fun K "clearance" "clearance" (topS 67) f_clearance fd_clearance
  m_clearance : mg "clearance" = some (.ref f_clearance)
  b_clearance : Binds K fd_clearance ["room", "body", "standing"] []
  f_edges_of : Addr
  fd_edges_of : FuncData
  F_edges_of : Fun K "edges_of" "edges_of" (topS 43) f_edges_of fd_edges_of
  m_edges_of : mg "edges_of" = some (.ref f_edges_of)
  b_edges_of : Binds K fd_edges_of ["room"] []
  f_lines_for : Addr
  fd_lines_for : FuncData
  F_lines_for : Fun K "lines_for" "lines_for" (topS 44) f_lines_for fd_lines_for
  m_lines_for : mg "lines_for" = some (.ref f_lines_for)
  b_lines_for : Binds K fd_lines_for ["room", "body", "extra"] []
  f_next_to : Addr
  fd_next_to : FuncData
  F_next_to : Fun K "next_to" "next_to" (topS 47) f_next_to fd_next_to
  m_next_to : mg "next_to" = some (.ref f_next_to)
  b_next_to : Binds K fd_next_to ["places", "one"] []
  f_neighbours : Addr
  fd_neighbours : FuncData
  F_neighbours : Fun K "neighbours" "neighbours" (topS 46) f_neighbours fd_neighbours
  m_neighbours : mg "neighbours" = some (.ref f_neighbours)
  b_neighbours : Binds K fd_neighbours ["room", "body", "xs", "ys", "standing"] []
  f_come_to : Addr
  fd_come_to : FuncData
  F_come_to : Fun K "come_to" "come_to" (topS 58) f_come_to fd_come_to
  m_come_to : mg "come_to" = some (.ref f_come_to)
  b_come_to : Binds K fd_come_to ["room", "body", "start", "extra"] []
  f_reach : Addr
  fd_reach : FuncData
  F_reach : Fun K "reach" "reach" (topS 59) f_reach fd_reach
  m_reach : mg "reach" = some (.ref f_reach)
  b_reach : Binds K fd_reach ["room", "body", "start"] []
  f_lines : Addr
  fd_lines : FuncData
  e0_lines : Addr
  e_lines : KT0 K e0_lines
  F_lines : FunD K "lines" "lines" (defArgs (topS 45)) (defBody (topS 45)) (defScope (topS 45)) [.ref e0_lines] [] f_lines fd_lines
  m_lines : mg "lines" = some (.ref f_lines)
  b_lines : Binds K fd_lines ["room", "body", "extra"] []
  bd_lines : ∃ ds, Vals [.ref e0_lines] ds ∧ Binds K fd_lines ["room", "body", "extra"] ds
  f_corners : Addr
  fd_corners : FuncData
  e0_corners : Addr
  e_corners : KT0 K e0_corners
  F_corners : FunD K "corners" "corners" (defArgs (topS 48)) (defBody (topS 48)) (defScope (topS 48)) [.ref e0_corners] [] f_corners fd_corners
  m_corners : mg "corners" = some (.ref f_corners)
  b_corners : Binds K fd_corners ["room", "body", "extra"] []
  bd_corners : ∃ ds, Vals [.ref e0_corners] ds ∧ Binds K fd_corners ["room", "body", "extra"] ds
  f_parts_of : Addr
  fd_parts_of : FuncData
  F_parts_of : Fun K "parts_of" "parts_of" (topS 62) f_parts_of fd_parts_of
  m_parts_of : mg "parts_of" = some (.ref f_parts_of)
  b_parts_of : Binds K fd_parts_of ["room", "body"] []
  f_parts : Addr
  fd_parts : FuncData
  F_parts : Fun K "parts" "parts" (topS 61) f_parts fd_parts
  m_parts : mg "parts" = some (.ref f_parts)
  b_parts : Binds K fd_parts ["room", "body"] []
  f_part_of : Addr
  fd_part_of : FuncData
  F_part_of : Fun K "part_of" "part_of" (topS 63) f_part_of fd_part_of
  m_part_of : mg "part_of" = some (.ref f_part_of)
  b_part_of : Binds K fd_part_of ["room", "body", "standing"] []
  f_look_number : Addr
  fd_look_number : FuncData
  F_look_number : Fun K "look_number" "look_number" (topS 11) f_look_number fd_look_number
  m_look_number : mg "look_number" = some (.ref f_look_number)
  b_look_number : Binds K fd_look_number ["thing", "low", "high"] []
  f_led_back : Addr
  fd_led_back : FuncData
  F_led_back : Fun K "led_back" "led_back" (topS 53) f_led_back fd_led_back
  m_led_back : mg "led_back" = some (.ref f_led_back)
  b_led_back : Binds K fd_led_back ["came", "goal"] []
  f_length_of : Addr
  fd_length_of : FuncData
  F_length_of : Fun K "length_of" "length_of" (topS 51) f_length_of fd_length_of
  m_length_of : mg "length_of" = some (.ref f_length_of)
  b_length_of : Binds K fd_length_of ["one", "other", "price"] []
  f_sought : Addr
  fd_sought : FuncData
  F_sought : Fun K "sought" "sought" (topS 52) f_sought fd_sought
  m_sought : mg "sought" = some (.ref f_sought)
  b_sought : Binds K fd_sought ["room", "body", "start", "goal", "price"] []
  f_is_straight : Addr
  fd_is_straight : FuncData
  F_is_straight : Fun K "is_straight" "is_straight" (topS 55) f_is_straight fd_is_straight
  m_is_straight : mg "is_straight" = some (.ref f_is_straight)
  b_is_straight : Binds K fd_is_straight ["one", "two", "three"] []
  f_shortened : Addr
  fd_shortened : FuncData
  F_shortened : Fun K "shortened" "shortened" (topS 54) f_shortened fd_shortened
  m_shortened : mg "shortened" = some (.ref f_shortened)
  b_shortened : Binds K fd_shortened ["row"] []
  f_way : Addr
  fd_way : FuncData
  F_way : Fun K "way" "way" (topS 56) f_way fd_way
  m_way : mg "way" = some (.ref f_way)
  b_way__ : ∃ ds, Vals ([1].map V.int) ds ∧ Binds K fd_way ["room", "body", "start", "goal", "price"] ds
  f_is_free : Addr
  fd_is_free : FuncData
  F_is_free : Fun K "is_free" "is_free" (topS 35) f_is_free fd_is_free
  m_is_free : mg "is_free" = some (.ref f_is_free)
  b_is_free : Binds K fd_is_free ["room", "body", "standing"] []
  f__law_does : Addr
  fd__law_does : FuncData
  F__law_does : Fun K "_law_does" "_law_does" (topS 72) f__law_does fd__law_does
  m__law_does : mg "_law_does" = some (.ref f__law_does)
  b__law_does : Binds K fd__law_does ["sort_of", "room", "body", "one"] []
  f__law_asked : Addr
  fd__law_asked : FuncData
  F__law_asked : Fun K "_law_asked" "_law_asked" (topS 73) f__law_asked fd__law_asked
  m__law_asked : mg "_law_asked" = some (.ref f__law_asked)
  b__law_asked : Binds K fd__law_asked ["sort_of", "room", "body", "one"] []
  f_law : Addr
  fd_law : FuncData
  F_law : Fun K "law" "law" (topS 75) f_law fd_law
  m_law : mg "law" = some (.ref f_law)
  b_law : Binds K fd_law ["script"] []
  z_ValueError : mg "ValueError" = none
  z_abs : mg "abs" = none
  z_all : mg "all" = none
  z_any : mg "any" = none
  z_bool : mg "bool" = none
  z_int : mg "int" = none
  z_isinstance : mg "isinstance" = none
  z_len : mg "len" = none
  z_list : mg "list" = none
  z_max : mg "max" = none
  z_min : mg "min" = none
  z_range : mg "range" = none
  z_set : mg "set" = none
  z_sorted : mg "sorted" = none
  z_tuple : mg "tuple" = none
  k_FAR : Tok
  c_FAR : mg "FAR" = some (.int 200 k_FAR)
  k_MOST_BLOCKS : Tok
  c_MOST_BLOCKS : mg "MOST_BLOCKS" = some (.int 16 k_MOST_BLOCKS)
  k_MOST_PRICE : Tok
  c_MOST_PRICE : mg "MOST_PRICE" = some (.int 1000 k_MOST_PRICE)
  k_MOST_RECTS : Tok
  c_MOST_RECTS : mg "MOST_RECTS" = some (.int 6 k_MOST_RECTS)
  k_MOST_bodies : Tok
  c_MOST_bodies : mg "MOST_bodies" = some (.int 8 k_MOST_bodies)
  k_MOST_rooms : Tok
  c_MOST_rooms : mg "MOST_rooms" = some (.int 60 k_MOST_rooms)
  A_BadNumber : Addr
  C_BadNumber : GCls mg "BadNumber" A_BadNumber
  A_BadRoom : Addr
  C_BadRoom : GCls mg "BadRoom" A_BadRoom
  A_BadBody : Addr
  C_BadBody : GCls mg "BadBody" A_BadBody
  A_BadStanding : Addr
  C_BadStanding : GCls mg "BadStanding" A_BadStanding
  A_NotFree : Addr
  C_NotFree : GCls mg "NotFree" A_NotFree
  A_BadWay : Addr
  C_BadWay : GCls mg "BadWay" A_BadWay
  A_BadText : Addr
  C_BadText : GCls mg "BadText" A_BadText
  A_NoDeed : Addr
  C_NoDeed : GCls mg "NoDeed" A_NoDeed
  A_WayError : Addr
  C_WayError : GCls mg "WayError" A_WayError
  X_BadNumber : XCls K mg "BadNumber" A_BadNumber
  E_BadNumber : ExcC K A_BadNumber
  w_BadNumber : PySem.W.exmOne K (.ref A_BadNumber) (.ref A_WayError) = some true
  n_BadNumber : PySem.W.exmOne K (.ref A_BadNumber) (.ref A_NotFree) = some false
  k_BadNumber_BadNumber : PySem.W.kitOne K (.ref A_BadNumber) (.ref A_BadNumber) = some true
  k_BadNumber_BadRoom : PySem.W.kitOne K (.ref A_BadNumber) (.ref A_BadRoom) = some false
  k_BadNumber_BadBody : PySem.W.kitOne K (.ref A_BadNumber) (.ref A_BadBody) = some false
  k_BadNumber_BadStanding : PySem.W.kitOne K (.ref A_BadNumber) (.ref A_BadStanding) = some false
  k_BadNumber_NotFree : PySem.W.kitOne K (.ref A_BadNumber) (.ref A_NotFree) = some false
  k_BadNumber_BadWay : PySem.W.kitOne K (.ref A_BadNumber) (.ref A_BadWay) = some false
  k_BadNumber_BadText : PySem.W.kitOne K (.ref A_BadNumber) (.ref A_BadText) = some false
  k_BadNumber_NoDeed : PySem.W.kitOne K (.ref A_BadNumber) (.ref A_NoDeed) = some false
  k_BadNumber_WayError : PySem.W.kitOne K (.ref A_BadNumber) (.ref A_WayError) = some true
  k_BadNumber_ValueError : PySem.W.kitOne K (.ref A_BadNumber) (.type "ValueError") = some true
  X_BadRoom : XCls K mg "BadRoom" A_BadRoom
  E_BadRoom : ExcC K A_BadRoom
  w_BadRoom : PySem.W.exmOne K (.ref A_BadRoom) (.ref A_WayError) = some true
  n_BadRoom : PySem.W.exmOne K (.ref A_BadRoom) (.ref A_NotFree) = some false
  k_BadRoom_BadNumber : PySem.W.kitOne K (.ref A_BadRoom) (.ref A_BadNumber) = some false
  k_BadRoom_BadRoom : PySem.W.kitOne K (.ref A_BadRoom) (.ref A_BadRoom) = some true
  k_BadRoom_BadBody : PySem.W.kitOne K (.ref A_BadRoom) (.ref A_BadBody) = some false
  k_BadRoom_BadStanding : PySem.W.kitOne K (.ref A_BadRoom) (.ref A_BadStanding) = some false
  k_BadRoom_NotFree : PySem.W.kitOne K (.ref A_BadRoom) (.ref A_NotFree) = some false
  k_BadRoom_BadWay : PySem.W.kitOne K (.ref A_BadRoom) (.ref A_BadWay) = some false
  k_BadRoom_BadText : PySem.W.kitOne K (.ref A_BadRoom) (.ref A_BadText) = some false
  k_BadRoom_NoDeed : PySem.W.kitOne K (.ref A_BadRoom) (.ref A_NoDeed) = some false
  k_BadRoom_WayError : PySem.W.kitOne K (.ref A_BadRoom) (.ref A_WayError) = some true
  k_BadRoom_ValueError : PySem.W.kitOne K (.ref A_BadRoom) (.type "ValueError") = some true
  X_BadBody : XCls K mg "BadBody" A_BadBody
  E_BadBody : ExcC K A_BadBody
  w_BadBody : PySem.W.exmOne K (.ref A_BadBody) (.ref A_WayError) = some true
  n_BadBody : PySem.W.exmOne K (.ref A_BadBody) (.ref A_NotFree) = some false
  k_BadBody_BadNumber : PySem.W.kitOne K (.ref A_BadBody) (.ref A_BadNumber) = some false
  k_BadBody_BadRoom : PySem.W.kitOne K (.ref A_BadBody) (.ref A_BadRoom) = some false
  k_BadBody_BadBody : PySem.W.kitOne K (.ref A_BadBody) (.ref A_BadBody) = some true
  k_BadBody_BadStanding : PySem.W.kitOne K (.ref A_BadBody) (.ref A_BadStanding) = some false
  k_BadBody_NotFree : PySem.W.kitOne K (.ref A_BadBody) (.ref A_NotFree) = some false
  k_BadBody_BadWay : PySem.W.kitOne K (.ref A_BadBody) (.ref A_BadWay) = some false
  k_BadBody_BadText : PySem.W.kitOne K (.ref A_BadBody) (.ref A_BadText) = some false
  k_BadBody_NoDeed : PySem.W.kitOne K (.ref A_BadBody) (.ref A_NoDeed) = some false
  k_BadBody_WayError : PySem.W.kitOne K (.ref A_BadBody) (.ref A_WayError) = some true
  k_BadBody_ValueError : PySem.W.kitOne K (.ref A_BadBody) (.type "ValueError") = some true
  X_BadStanding : XCls K mg "BadStanding" A_BadStanding
  E_BadStanding : ExcC K A_BadStanding
  w_BadStanding : PySem.W.exmOne K (.ref A_BadStanding) (.ref A_WayError) = some true
  n_BadStanding : PySem.W.exmOne K (.ref A_BadStanding) (.ref A_NotFree) = some false
  k_BadStanding_BadNumber : PySem.W.kitOne K (.ref A_BadStanding) (.ref A_BadNumber) = some false
  k_BadStanding_BadRoom : PySem.W.kitOne K (.ref A_BadStanding) (.ref A_BadRoom) = some false
  k_BadStanding_BadBody : PySem.W.kitOne K (.ref A_BadStanding) (.ref A_BadBody) = some false
  k_BadStanding_BadStanding : PySem.W.kitOne K (.ref A_BadStanding) (.ref A_BadStanding) = some true
  k_BadStanding_NotFree : PySem.W.kitOne K (.ref A_BadStanding) (.ref A_NotFree) = some false
  k_BadStanding_BadWay : PySem.W.kitOne K (.ref A_BadStanding) (.ref A_BadWay) = some false
  k_BadStanding_BadText : PySem.W.kitOne K (.ref A_BadStanding) (.ref A_BadText) = some false
  k_BadStanding_NoDeed : PySem.W.kitOne K (.ref A_BadStanding) (.ref A_NoDeed) = some false
  k_BadStanding_WayError : PySem.W.kitOne K (.ref A_BadStanding) (.ref A_WayError) = some true
  k_BadStanding_ValueError : PySem.W.kitOne K (.ref A_BadStanding) (.type "ValueError") = some true
  E_NotFree : ExcC K A_NotFree
  w_NotFree : PySem.W.exmOne K (.ref A_NotFree) (.ref A_WayError) = some true
  n_NotFree : PySem.W.exmOne K (.ref A_NotFree) (.ref A_NotFree) = some true
  k_NotFree_BadNumber : PySem.W.kitOne K (.ref A_NotFree) (.ref A_BadNumber) = some false
  k_NotFree_BadRoom : PySem.W.kitOne K (.ref A_NotFree) (.ref A_BadRoom) = some false
  k_NotFree_BadBody : PySem.W.kitOne K (.ref A_NotFree) (.ref A_BadBody) = some false
  k_NotFree_BadStanding : PySem.W.kitOne K (.ref A_NotFree) (.ref A_BadStanding) = some false
  k_NotFree_NotFree : PySem.W.kitOne K (.ref A_NotFree) (.ref A_NotFree) = some true
  k_NotFree_BadWay : PySem.W.kitOne K (.ref A_NotFree) (.ref A_BadWay) = some false
  k_NotFree_BadText : PySem.W.kitOne K (.ref A_NotFree) (.ref A_BadText) = some false
  k_NotFree_NoDeed : PySem.W.kitOne K (.ref A_NotFree) (.ref A_NoDeed) = some false
  k_NotFree_WayError : PySem.W.kitOne K (.ref A_NotFree) (.ref A_WayError) = some true
  k_NotFree_ValueError : PySem.W.kitOne K (.ref A_NotFree) (.type "ValueError") = some true
  f_ini : Addr
  fd_ini : FuncData
  Y_NotFree : XOwn K mg "NotFree" "standing" A_NotFree f_ini
  F_ini : Fun K "__init__" "NotFree.__init__" (iniS 6) f_ini fd_ini
  b_ini : Binds K fd_ini ["self", "standing"] []
section
variable {P : Program} {w : World} {K : PySem.W.Frag} {mg : Str → Option Value} {base : Heap}
theorem sc_ini : FnScope ["self", "standing"] ["self", "standing"] (defScope (iniS 6)) := ⟨rfl, rfl, rfl, by decide +kernel, rfl, by decide +kernel, by decide +kernel⟩
theorem ok_ini (T : Fc K mg) : FnOk P w K mg base CX0 1 T.f_ini T.fd_ini ["self", "standing"] (spI K "standing") := fn_I T.F_ini sc_ini rfl (by first | exact Or.inl rfl | exact Or.inr (Or.inl rfl) | exact Or.inr (Or.inr rfl)) (by first | exact Or.inl rfl | exact Or.inr (Or.inl rfl) | exact Or.inr (Or.inr rfl)) (by decide +kernel) (by decide +kernel)
abbrev st__law_town : Stmt := topS 69
theorem sc__law_town : FnScope ["script"] ["script"] (defScope st__law_town) := ⟨rfl, rfl, rfl, by decide +kernel, rfl, by decide +kernel, by decide +kernel⟩
theorem ok__law_town (T : Fc K mg) : FnOk P w K mg base CX0 1 T.f__law_town T.fd__law_town ["script"] (spTown K) := ok_town T.F__law_town sc__law_town T.z_list rfl rfl rfl
abbrev st__law_draw : Stmt := topS 70
theorem sc__law_draw : FnScope ["town", "count", "row", "at", "cell", "mixed"] ["town", "count"] (defScope st__law_draw) := ⟨rfl, rfl, rfl, by decide +kernel, rfl, by decide +kernel, by decide +kernel⟩
theorem ok__law_draw (T : Fc K mg) : FnOk P w K mg base CX0 1 T.f__law_draw T.fd__law_draw ["town", "count"] (spT ⟨P, w, K⟩ 1 g__law_draw) :=
  fn_T (k := 0) T.F__law_draw sc__law_draw rfl (fun cdv A outer s H E hr => vb_cons (vs_row 0 2 ⟨rfl, by first | exact Or.inl rfl | exact Or.inr (Or.inl rfl) | exact Or.inr (Or.inr rfl), by decide +kernel, by decide +kernel⟩ sc__law_draw.nd)
    (vb_cons (vs_tw1 0 ⟨rfl, by first | exact Or.inl rfl | exact Or.inr (Or.inl rfl) | exact Or.inr (Or.inr rfl), by decide +kernel, by decide +kernel⟩ (ve_add (ve_tw1 0 ⟨rfl, by first | exact Or.inl rfl | exact Or.inr (Or.inl rfl) | exact Or.inr (Or.inr rfl), by decide +kernel, by decide +kernel⟩) (ve_int)))
    (vb_cons (vs_set (i := 3) (ve_mod (ve_tw1 0 ⟨rfl, by first | exact Or.inl rfl | exact Or.inr (Or.inl rfl) | exact Or.inr (Or.inr rfl), by decide +kernel, by decide +kernel⟩) (ve_rowLen 2 ⟨rfl, by first | exact Or.inl rfl | exact Or.inr (Or.inl rfl) | exact Or.inr (Or.inr rfl), by decide +kernel, by decide +kernel⟩ (by rfl) T.z_len ⟨rfl, rfl⟩)) sc__law_draw.nd)
    (vb_cons (vs_set (i := 4) (ve_rowAt 2 ⟨rfl, by first | exact Or.inl rfl | exact Or.inr (Or.inl rfl) | exact Or.inr (Or.inr rfl), by decide +kernel, by decide +kernel⟩ (ve_var 3)) sc__law_draw.nd)
    (vb_cons (vs_if (vt_ge (ve_var 4) (ve_int))
    (vb_cons (vs_rowSet 2 ⟨rfl, by first | exact Or.inl rfl | exact Or.inr (Or.inl rfl) | exact Or.inr (Or.inr rfl), by decide +kernel, by decide +kernel⟩ (ve_var 3) (ve_div (ve_var 4) (ve_var 1)))
    (vb_one (vs_ret (ve_mod (ve_var 4) (ve_var 1)))))
    (vb_nil))
    (vb_cons (vs_set (i := 5) (ve_mod (ve_add (ve_var 4) (ve_mul (ve_int) (ve_tw1 0 ⟨rfl, by first | exact Or.inl rfl | exact Or.inr (Or.inl rfl) | exact Or.inr (Or.inr rfl), by decide +kernel, by decide +kernel⟩))) (ve_int)) sc__law_draw.nd)
    (vb_cons (vs_set (i := 5) (ve_mod (ve_pow (ve_var 5) (ve_int)) (ve_int)) sc__law_draw.nd)
    (vb_one (vs_ret (ve_mod (ve_div (ve_mod (ve_add (ve_mul (ve_div (ve_var 5) (ve_int)) (ve_int)) (ve_var 5)) (ve_int)) (ve_int)) (ve_var 1)))))))))))
abbrev st__law_refusal : Stmt := topS 71
theorem sc__law_refusal : FnScope ["caught", "sorts"] ["caught"] (defScope st__law_refusal) := ⟨rfl, rfl, rfl, by decide +kernel, rfl, by decide +kernel, by decide +kernel⟩
theorem tab_R (T : Fc K mg) : Tab K mg [.ref T.A_BadNumber, .ref T.A_BadRoom, .ref T.A_BadBody, .ref T.A_BadStanding, .ref T.A_NotFree, .ref T.A_BadWay, .ref T.A_BadText, .ref T.A_NoDeed, .ref T.A_WayError, .ty "ValueError"] R4 R5 gR := by
  refine ⟨fun c z C hc hg => ?_⟩
  have hm := tabF_mem hg
  simp only [tabR, List.mem_cons, List.not_mem_nil, or_false, Prod.mk.injEq] at hm
  rcases hm with ⟨rfl, rfl⟩ | ⟨rfl, rfl⟩ | ⟨rfl, rfl⟩ | ⟨rfl, rfl⟩ | ⟨rfl, rfl⟩
  · have e := T.C_BadNumber.g.symm.trans hc
    cases e
    exact ⟨true, false, false, false, false, false, false, false, row10 T.E_BadNumber T.k_BadNumber_BadNumber T.k_BadNumber_BadRoom T.k_BadNumber_BadBody T.k_BadNumber_BadStanding T.k_BadNumber_NotFree T.k_BadNumber_BadWay T.k_BadNumber_BadText T.k_BadNumber_NoDeed T.k_BadNumber_WayError T.k_BadNumber_ValueError, rfl, rfl⟩
  · have e := T.C_BadRoom.g.symm.trans hc
    cases e
    exact ⟨false, true, false, false, false, false, false, false, row10 T.E_BadRoom T.k_BadRoom_BadNumber T.k_BadRoom_BadRoom T.k_BadRoom_BadBody T.k_BadRoom_BadStanding T.k_BadRoom_NotFree T.k_BadRoom_BadWay T.k_BadRoom_BadText T.k_BadRoom_NoDeed T.k_BadRoom_WayError T.k_BadRoom_ValueError, rfl, rfl⟩
  · have e := T.C_BadBody.g.symm.trans hc
    cases e
    exact ⟨false, false, true, false, false, false, false, false, row10 T.E_BadBody T.k_BadBody_BadNumber T.k_BadBody_BadRoom T.k_BadBody_BadBody T.k_BadBody_BadStanding T.k_BadBody_NotFree T.k_BadBody_BadWay T.k_BadBody_BadText T.k_BadBody_NoDeed T.k_BadBody_WayError T.k_BadBody_ValueError, rfl, rfl⟩
  · have e := T.C_BadStanding.g.symm.trans hc
    cases e
    exact ⟨false, false, false, true, false, false, false, false, row10 T.E_BadStanding T.k_BadStanding_BadNumber T.k_BadStanding_BadRoom T.k_BadStanding_BadBody T.k_BadStanding_BadStanding T.k_BadStanding_NotFree T.k_BadStanding_BadWay T.k_BadStanding_BadText T.k_BadStanding_NoDeed T.k_BadStanding_WayError T.k_BadStanding_ValueError, rfl, rfl⟩
  · have e := T.C_NotFree.g.symm.trans hc
    cases e
    exact ⟨false, false, false, false, true, false, false, false, row10 T.E_NotFree T.k_NotFree_BadNumber T.k_NotFree_BadRoom T.k_NotFree_BadBody T.k_NotFree_BadStanding T.k_NotFree_NotFree T.k_NotFree_BadWay T.k_NotFree_BadText T.k_NotFree_NoDeed T.k_NotFree_WayError T.k_NotFree_ValueError, rfl, rfl⟩
theorem gR_exm (T : Fc K mg) : ∀ c C z, mg c = some (.ref C) → gR c = some z → PySem.W.exmOne K (.ref C) (.ref T.A_WayError) = some true := by
  intro c C z hc hg
  have hm := tabF_mem hg
  simp only [tabR, List.mem_cons, List.not_mem_nil, or_false, Prod.mk.injEq] at hm
  rcases hm with ⟨rfl, rfl⟩ | ⟨rfl, rfl⟩ | ⟨rfl, rfl⟩ | ⟨rfl, rfl⟩ | ⟨rfl, rfl⟩
  · have e := T.C_BadNumber.g.symm.trans hc
    cases e
    exact T.w_BadNumber
  · have e := T.C_BadRoom.g.symm.trans hc
    cases e
    exact T.w_BadRoom
  · have e := T.C_BadBody.g.symm.trans hc
    cases e
    exact T.w_BadBody
  · have e := T.C_BadStanding.g.symm.trans hc
    cases e
    exact T.w_BadStanding
  · have e := T.C_NotFree.g.symm.trans hc
    cases e
    exact T.w_NotFree
theorem gR_nf (T : Fc K mg) : ∀ (c : Str) C z, c ≠ ("NotFree" : Str) → mg c = some (.ref C) → gR c = some z → PySem.W.exmOne K (.ref C) (.ref T.A_NotFree) = some false := by
  intro c C z hn hc hg
  have hm := tabF_mem hg
  simp only [tabR, List.mem_cons, List.not_mem_nil, or_false, Prod.mk.injEq] at hm
  rcases hm with ⟨rfl, rfl⟩ | ⟨rfl, rfl⟩ | ⟨rfl, rfl⟩ | ⟨rfl, rfl⟩ | ⟨rfl, rfl⟩
  · have e := T.C_BadNumber.g.symm.trans hc
    cases e
    exact T.n_BadNumber
  · have e := T.C_BadRoom.g.symm.trans hc
    cases e
    exact T.n_BadRoom
  · have e := T.C_BadBody.g.symm.trans hc
    cases e
    exact T.n_BadBody
  · have e := T.C_BadStanding.g.symm.trans hc
    cases e
    exact T.n_BadStanding
  · exact absurd rfl hn
theorem ok__law_refusal (T : Fc K mg) : FnOk P w K mg base CX0 1 T.f__law_refusal T.fd__law_refusal ["caught"] (spR mg gR) :=
  fn_R (k := 0) T.F__law_refusal sc__law_refusal (tab_R T) (fun cdv A outer s H E hr => ref_body sc__law_refusal.nd rfl (by first | exact Or.inl rfl | exact Or.inr rfl) (by first | exact Or.inl rfl | exact Or.inr (Or.inl rfl) | exact Or.inr (Or.inr rfl)) (by decide +kernel) (by decide +kernel) (by first | exact Or.inl rfl | exact Or.inr rfl) (pe_isX rfl (by first | exact Or.inl rfl | exact Or.inr (Or.inl rfl) | exact Or.inr (Or.inr rfl)) (by rfl) T.z_isinstance (by rfl) T.C_BadNumber.g rfl) (pe_isX rfl (by first | exact Or.inl rfl | exact Or.inr (Or.inl rfl) | exact Or.inr (Or.inr rfl)) (by rfl) T.z_isinstance (by rfl) T.C_BadRoom.g rfl) (pe_isX rfl (by first | exact Or.inl rfl | exact Or.inr (Or.inl rfl) | exact Or.inr (Or.inr rfl)) (by rfl) T.z_isinstance (by rfl) T.C_BadBody.g rfl) (pe_isX rfl (by first | exact Or.inl rfl | exact Or.inr (Or.inl rfl) | exact Or.inr (Or.inr rfl)) (by rfl) T.z_isinstance (by rfl) T.C_BadStanding.g rfl) (pe_isX rfl (by first | exact Or.inl rfl | exact Or.inr (Or.inl rfl) | exact Or.inr (Or.inr rfl)) (by rfl) T.z_isinstance (by rfl) T.C_NotFree.g rfl) (pe_isX rfl (by first | exact Or.inl rfl | exact Or.inr (Or.inl rfl) | exact Or.inr (Or.inr rfl)) (by rfl) T.z_isinstance (by rfl) T.C_BadWay.g rfl) (pe_isX rfl (by first | exact Or.inl rfl | exact Or.inr (Or.inl rfl) | exact Or.inr (Or.inr rfl)) (by rfl) T.z_isinstance (by rfl) T.C_BadText.g rfl) (pe_isX rfl (by first | exact Or.inl rfl | exact Or.inr (Or.inl rfl) | exact Or.inr (Or.inr rfl)) (by rfl) T.z_isinstance (by rfl) T.C_NoDeed.g rfl) (pe_isX rfl (by first | exact Or.inl rfl | exact Or.inr (Or.inl rfl) | exact Or.inr (Or.inr rfl)) (by rfl) T.z_isinstance (by rfl) T.C_WayError.g rfl) (pe_isXB rfl (by first | exact Or.inl rfl | exact Or.inr (Or.inl rfl) | exact Or.inr (Or.inr rfl)) (by rfl) T.z_isinstance (by rfl) T.z_ValueError) (fun _ => rfl) (fun _ => rfl) (vt_ne (u64 hr) (ve_count (ve_var 1) (ve_bl) (u64 hr) ⟨rfl, rfl, rfl, rfl, rfl⟩) (ve_int)) (ve_ix ((vf_lst (va_cons (ve_str) (va_cons (ve_str) (va_cons (ve_str) (va_cons (ve_str) (va_cons (ve_str) (va_cons (ve_str) (va_cons (ve_str) (va_cons (ve_str) (va_nil)))))))))).ve) (ve_indexD (ve_var 1) (ve_bl) (u65 hr) ⟨rfl, rfl, rfl, rfl, rfl⟩)) rfl rfl rfl)
abbrev st_is_whole : Stmt := topS 10
theorem sc_is_whole : FnScope ["thing", "low", "high"] ["thing", "low", "high"] (defScope st_is_whole) := ⟨rfl, rfl, rfl, by decide +kernel, rfl, by decide +kernel, by decide +kernel⟩
theorem ok_is_whole (T : Fc K mg) : FnOk P w K mg base CX0 1 T.f_is_whole T.fd_is_whole ["thing", "low", "high"] (spV ⟨P, w, K⟩ 3 g_is_whole) :=
  fn_V (k := 0) T.F_is_whole sc_is_whole (fun cdv A outer s H E hr => vb_one (vs_ret (ve_and (ve_isi .int (by rfl) T.z_isinstance (by rfl) T.z_int (ve_var 0)) (ve_and (ve_not (ve_isi .bool (by rfl) T.z_isinstance (by rfl) T.z_bool (ve_var 0))) (ve_one (ve_chain op_le op_le sr_le sr_le (ve_var 1) (ve_var 0) (ve_var 2)))))))
abbrev st_is_rect : Stmt := topS 15
theorem sc_is_rect : FnScope ["thing", "low", "high", "one"] ["thing", "low", "high"] (defScope st_is_rect) := ⟨rfl, rfl, rfl, by decide +kernel, rfl, by decide +kernel, by decide +kernel⟩
theorem ok_is_rect (T : Fc K mg) : FnOk P w K mg base CX0 2 T.f_is_rect T.fd_is_rect ["thing", "low", "high"] (spV ⟨P, w, K⟩ 3 g_is_rect) :=
  fn_V (k := 1) T.F_is_rect sc_is_rect (fun cdv A outer s H E hr => vb_cons (vs_if ((vw_or (vt_not (vt_val (ve_isi .tuple (by rfl) T.z_isinstance (by rfl) T.z_tuple (ve_var 0)))) (vw_or (vt_ne (u64 hr) (ve_len (by rfl) T.z_len (va_cons (ve_var 0) (va_nil))) (ve_int)) (vw_or1 (vt_not (vt_val (ve_all rfl (by rfl) T.z_all (va_cons ((vf_comp rfl sc_is_rect.nd (own := [("one", 3)]) (blkOk_by (N := ["thing", "low", "high", "one"]) (sc := defScope st_is_rect) (by decide +kernel)) (vi_seq (ve_var 0)) (fun b => ⟨vge_name 3 sc_is_rect.nd, vts_nil, vp_emit rfl (ve_fn (ok_is_whole T) (hr.mono (by decide)) (by rfl) T.m_is_whole T.F_is_whole.kp T.b_is_whole (va_cons (ve_var 3) (va_cons (ve_var 1) (va_cons (ve_var 2) (va_nil)))))⟩)).ve) (va_nil)))))))).vt)
    (vb_one (vs_ret (ve_bl)))
    (vb_nil))
    (vb_one (vs_ret (ve_and (ve_lt (ve_ix (ve_var 0) (ve_int)) (ve_ix (ve_var 0) (ve_int))) (ve_one (ve_lt (ve_ix (ve_var 0) (ve_int)) (ve_ix (ve_var 0) (ve_int))))))))
abbrev st_is_room : Stmt := topS 16
theorem sc_is_room : FnScope ["thing", "wide", "high", "blocks", "one"] ["thing"] (defScope st_is_room) := ⟨rfl, rfl, rfl, by decide +kernel, rfl, by decide +kernel, by decide +kernel⟩
theorem ok_is_room (T : Fc K mg) : FnOk P w K mg base CX0 3 T.f_is_room T.fd_is_room ["thing"] (spV ⟨P, w, K⟩ 1 g_is_room) :=
  fn_V (k := 2) T.F_is_room sc_is_room (fun cdv A outer s H E hr => vb_cons (vs_if ((vw_or (vt_not (vt_val (ve_isi .tuple (by rfl) T.z_isinstance (by rfl) T.z_tuple (ve_var 0)))) (vw_or (vt_ne (u64 hr) (ve_len (by rfl) T.z_len (va_cons (ve_var 0) (va_nil))) (ve_int)) (vw_or1 (vt_not (vt_val (ve_all rfl (by rfl) T.z_all (va_cons ((vf_comp rfl sc_is_room.nd (own := [("one", 4)]) (blkOk_by (N := ["thing", "wide", "high", "blocks", "one"]) (sc := defScope st_is_room) (by decide +kernel)) (vi_seq (ve_slT (ve_var 0) (vo_none) (vo_some (ve_int)))) (fun b => ⟨vge_name 4 sc_is_room.nd, vts_nil, vp_emit rfl (ve_fn (ok_is_whole T) (hr.mono (by decide)) (by rfl) T.m_is_whole T.F_is_whole.kp T.b_is_whole (va_cons (ve_var 4) (va_cons (ve_int) (va_cons (ve_gint (by rfl) T.c_MOST_rooms) (va_nil)))))⟩)).ve) (va_nil)))))))).vt)
    (vb_one (vs_ret (ve_bl)))
    (vb_nil))
    (vb_cons (vs_asg (ve_var 0) (vg_tup rfl (vgs_cons (vg_name 1 sc_is_room.nd) (vgs_cons (vg_name 2 sc_is_room.nd) (vgs_cons (vg_name 3 sc_is_room.nd) (vgs_nil))))))
    (vb_cons (vs_if ((vw_or (vt_not (vt_val (ve_isi .tuple (by rfl) T.z_isinstance (by rfl) T.z_tuple (ve_var 3)))) (vw_or1 (vt_gt (ve_len (by rfl) T.z_len (va_cons (ve_var 3) (va_nil))) (ve_gint (by rfl) T.c_MOST_BLOCKS)))).vt)
    (vb_one (vs_ret (ve_bl)))
    (vb_nil))
    (vb_one (vs_ret (ve_all rfl (by rfl) T.z_all (va_cons ((vf_comp rfl sc_is_room.nd (own := [("one", 4)]) (blkOk_by (N := ["thing", "wide", "high", "blocks", "one"]) (sc := defScope st_is_room) (by decide +kernel)) (vi_seq (ve_var 3)) (fun b => ⟨vge_name 4 sc_is_room.nd, vts_nil, vp_emit rfl (ve_and (ve_fn (ok_is_rect T) (hr.mono (by decide)) (by rfl) T.m_is_rect T.F_is_rect.kp T.b_is_rect (va_cons (ve_var 4) (va_cons (ve_int) (va_cons (ve_gint (by rfl) T.c_MOST_rooms) (va_nil))))) (ve_and (ve_le (ve_ix (ve_var 4) (ve_int)) (ve_var 1)) (ve_one (ve_le (ve_ix (ve_var 4) (ve_int)) (ve_var 2)))))⟩)).ve) (va_nil))))))))
abbrev st_look_room : Stmt := topS 17
theorem sc_look_room : FnScope ["thing"] ["thing"] (defScope st_look_room) := ⟨rfl, rfl, rfl, by decide +kernel, rfl, by decide +kernel, by decide +kernel⟩
theorem okx_look_room (T : Fc K mg) : FnOk P w K mg base (L2.CX P w) 4 T.f_look_room T.fd_look_room ["thing"] (spX ⟨P, w, K⟩ mg 1 gx_look_room) :=
  fn_X (k := 3) T.F_look_room sc_look_room (fun cdv A outer s H E hr tk po => vbx_one (vsx_if (vt_not (vt_val (ve_fn (ok_is_room T) (hr.mono (by decide)) (by rfl) T.m_is_room T.F_is_room.kp T.b_is_room (va_cons (ve_var 0) (va_nil)))))
    (vbx_one (vsx_raise T.X_BadRoom rfl tk (by rfl)))
    (vbx_of vb_nil)))
abbrev st_is_body : Stmt := topS 23
theorem sc_is_body : FnScope ["thing", "one"] ["thing"] (defScope st_is_body) := ⟨rfl, rfl, rfl, by decide +kernel, rfl, by decide +kernel, by decide +kernel⟩
theorem ok_is_body (T : Fc K mg) : FnOk P w K mg base CX0 3 T.f_is_body T.fd_is_body ["thing"] (spV ⟨P, w, K⟩ 1 g_is_body) :=
  fn_V (k := 2) T.F_is_body sc_is_body (fun cdv A outer s H E hr => vb_cons (vs_if ((vw_or (vt_not (vt_val (ve_isi .tuple (by rfl) T.z_isinstance (by rfl) T.z_tuple (ve_var 0)))) (vw_or1 (vt_not (vt_chain op_le op_le sr_le sr_le (ve_int) (ve_len (by rfl) T.z_len (va_cons (ve_var 0) (va_nil))) (ve_gint (by rfl) T.c_MOST_RECTS))))).vt)
    (vb_one (vs_ret (ve_bl)))
    (vb_nil))
    (vb_one (vs_ret (ve_all rfl (by rfl) T.z_all (va_cons ((vf_comp rfl sc_is_body.nd (own := [("one", 1)]) (blkOk_by (N := ["thing", "one"]) (sc := defScope st_is_body) (by decide +kernel)) (vi_seq (ve_var 0)) (fun b => ⟨vge_name 1 sc_is_body.nd, vts_nil, vp_emit rfl (ve_fn (ok_is_rect T) (hr.mono (by decide)) (by rfl) T.m_is_rect T.F_is_rect.kp T.b_is_rect (va_cons (ve_var 1) (va_cons (ve_neg (ve_gint (by rfl) T.c_MOST_bodies)) (va_cons (ve_gint (by rfl) T.c_MOST_bodies) (va_nil)))))⟩)).ve) (va_nil))))))
abbrev st_look_body : Stmt := topS 24
theorem sc_look_body : FnScope ["thing"] ["thing"] (defScope st_look_body) := ⟨rfl, rfl, rfl, by decide +kernel, rfl, by decide +kernel, by decide +kernel⟩
theorem okx_look_body (T : Fc K mg) : FnOk P w K mg base (L2.CX P w) 4 T.f_look_body T.fd_look_body ["thing"] (spX ⟨P, w, K⟩ mg 1 gx_look_body) :=
  fn_X (k := 3) T.F_look_body sc_look_body (fun cdv A outer s H E hr tk po => vbx_one (vsx_if (vt_not (vt_val (ve_fn (ok_is_body T) (hr.mono (by decide)) (by rfl) T.m_is_body T.F_is_body.kp T.b_is_body (va_cons (ve_var 0) (va_nil)))))
    (vbx_one (vsx_raise T.X_BadBody rfl tk (by rfl)))
    (vbx_of vb_nil)))
abbrev st_look_all : Stmt := topS 32
theorem sc_look_all : FnScope ["room", "body"] ["room", "body"] (defScope st_look_all) := ⟨rfl, rfl, rfl, by decide +kernel, rfl, by decide +kernel, by decide +kernel⟩
theorem okx_look_all (T : Fc K mg) : FnOk P w K mg base (L2.CX P w) 5 T.f_look_all T.fd_look_all ["room", "body"] (spX ⟨P, w, K⟩ mg 2 gx_look_all) :=
  fn_X (k := 4) T.F_look_all sc_look_all (fun cdv A outer s H E hr tk po => vbx_cons (vsx_expr (vex_fn (okx_look_room T) (hr.mono (by decide)) (by rfl) T.m_look_room T.F_look_room.kp T.b_look_room tk (va_cons (ve_var 0) (va_nil))))
    (vbx_one (vsx_expr (vex_fn (okx_look_body T) (hr.mono (by decide)) (by rfl) T.m_look_body T.F_look_body.kp T.b_look_body tk (va_cons (ve_var 1) (va_nil))))))
abbrev st_is_standing : Stmt := topS 30
theorem sc_is_standing : FnScope ["thing", "one"] ["thing"] (defScope st_is_standing) := ⟨rfl, rfl, rfl, by decide +kernel, rfl, by decide +kernel, by decide +kernel⟩
theorem ok_is_standing (T : Fc K mg) : FnOk P w K mg base CX0 2 T.f_is_standing T.fd_is_standing ["thing"] (spV ⟨P, w, K⟩ 1 g_is_standing) :=
  fn_V (k := 1) T.F_is_standing sc_is_standing (fun cdv A outer s H E hr => vb_cons (vs_if ((vw_or (vt_not (vt_val (ve_isi .tuple (by rfl) T.z_isinstance (by rfl) T.z_tuple (ve_var 0)))) (vw_or (vt_ne (u64 hr) (ve_len (by rfl) T.z_len (va_cons (ve_var 0) (va_nil))) (ve_int)) (vw_or1 (vt_not (vt_val (ve_fn (ok_is_whole T) (hr.mono (by decide)) (by rfl) T.m_is_whole T.F_is_whole.kp T.b_is_whole (va_cons (ve_ix (ve_var 0) (ve_int)) (va_cons (ve_int) (va_cons (ve_int) (va_nil)))))))))).vt)
    (vb_one (vs_ret (ve_bl)))
    (vb_nil))
    (vb_one (vs_ret (ve_all rfl (by rfl) T.z_all (va_cons ((vf_comp rfl sc_is_standing.nd (own := [("one", 1)]) (blkOk_by (N := ["thing", "one"]) (sc := defScope st_is_standing) (by decide +kernel)) (vi_seq (ve_slT (ve_var 0) (vo_none) (vo_some (ve_int)))) (fun b => ⟨vge_name 1 sc_is_standing.nd, vts_nil, vp_emit rfl (ve_fn (ok_is_whole T) (hr.mono (by decide)) (by rfl) T.m_is_whole T.F_is_whole.kp T.b_is_whole (va_cons (ve_var 1) (va_cons (ve_neg (ve_gint (by rfl) T.c_FAR)) (va_cons (ve_gint (by rfl) T.c_FAR) (va_nil)))))⟩)).ve) (va_nil))))))
abbrev st_look_standing : Stmt := topS 31
theorem sc_look_standing : FnScope ["thing"] ["thing"] (defScope st_look_standing) := ⟨rfl, rfl, rfl, by decide +kernel, rfl, by decide +kernel, by decide +kernel⟩
theorem okx_look_standing (T : Fc K mg) : FnOk P w K mg base (L2.CX P w) 3 T.f_look_standing T.fd_look_standing ["thing"] (spX ⟨P, w, K⟩ mg 1 gx_look_standing) :=
  fn_X (k := 2) T.F_look_standing sc_look_standing (fun cdv A outer s H E hr tk po => vbx_one (vsx_if (vt_not (vt_val (ve_fn (ok_is_standing T) (hr.mono (by decide)) (by rfl) T.m_is_standing T.F_is_standing.kp T.b_is_standing (va_cons (ve_var 0) (va_nil)))))
    (vbx_one (vsx_raise T.X_BadStanding rfl tk (by rfl)))
    (vbx_of vb_nil)))
abbrev st_overlap : Stmt := topS 18
theorem sc_overlap : FnScope ["one", "other"] ["one", "other"] (defScope st_overlap) := ⟨rfl, rfl, rfl, by decide +kernel, rfl, by decide +kernel, by decide +kernel⟩
theorem ok_overlap (T : Fc K mg) : FnOk P w K mg base CX0 1 T.f_overlap T.fd_overlap ["one", "other"] (spV ⟨P, w, K⟩ 2 g_overlap) :=
  fn_V (k := 0) T.F_overlap sc_overlap (fun cdv A outer s H E hr => vb_one (vs_ret (ve_and (ve_lt (ve_ix (ve_var 0) (ve_int)) (ve_ix (ve_var 1) (ve_int))) (ve_and (ve_lt (ve_ix (ve_var 1) (ve_int)) (ve_ix (ve_var 0) (ve_int))) (ve_and (ve_lt (ve_ix (ve_var 0) (ve_int)) (ve_ix (ve_var 1) (ve_int))) (ve_one (ve_lt (ve_ix (ve_var 1) (ve_int)) (ve_ix (ve_var 0) (ve_int)))))))))
abbrev st_fits : Stmt := topS 19
theorem sc_fits : FnScope ["room", "rect", "wide", "high", "blocks", "one"] ["room", "rect"] (defScope st_fits) := ⟨rfl, rfl, rfl, by decide +kernel, rfl, by decide +kernel, by decide +kernel⟩
theorem ok_fits (T : Fc K mg) : FnOk P w K mg base CX0 2 T.f_fits T.fd_fits ["room", "rect"] (spV ⟨P, w, K⟩ 2 g_fits) :=
  fn_V (k := 1) T.F_fits sc_fits (fun cdv A outer s H E hr => vb_cons (vs_asg (ve_var 0) (vg_tup rfl (vgs_cons (vg_name 2 sc_fits.nd) (vgs_cons (vg_name 3 sc_fits.nd) (vgs_cons (vg_name 4 sc_fits.nd) (vgs_nil))))))
    (vb_cons (vs_if ((vw_or (vt_lt (ve_ix (ve_var 1) (ve_int)) (ve_int)) (vw_or (vt_lt (ve_ix (ve_var 1) (ve_int)) (ve_int)) (vw_or (vt_gt (ve_ix (ve_var 1) (ve_int)) (ve_var 2)) (vw_or1 (vt_gt (ve_ix (ve_var 1) (ve_int)) (ve_var 3)))))).vt)
    (vb_one (vs_ret (ve_bl)))
    (vb_nil))
    (vb_one (vs_ret (ve_not (ve_any rfl (by rfl) T.z_any (va_cons ((vf_comp rfl sc_fits.nd (own := [("one", 5)]) (blkOk_by (N := ["room", "rect", "wide", "high", "blocks", "one"]) (sc := defScope st_fits) (by decide +kernel)) (vi_seq (ve_var 4)) (fun b => ⟨vge_name 5 sc_fits.nd, vts_nil, vp_emit rfl (ve_fn (ok_overlap T) (hr.mono (by decide)) (by rfl) T.m_overlap T.F_overlap.kp T.b_overlap (va_cons (ve_var 1) (va_cons (ve_var 5) (va_nil))))⟩)).ve) (va_nil))))))))
abbrev st_quarter : Stmt := topS 25
theorem sc_quarter : FnScope ["rect"] ["rect"] (defScope st_quarter) := ⟨rfl, rfl, rfl, by decide +kernel, rfl, by decide +kernel, by decide +kernel⟩
theorem ok_quarter (T : Fc K mg) : FnOk P w K mg base CX0 1 T.f_quarter T.fd_quarter ["rect"] (spV ⟨P, w, K⟩ 1 g_quarter) :=
  fn_V (k := 0) T.F_quarter sc_quarter (fun cdv A outer s H E hr => vb_one (vs_ret (ve_tup (va_cons (ve_neg (ve_ix (ve_var 0) (ve_int))) (va_cons (ve_ix (ve_var 0) (ve_int)) (va_cons (ve_neg (ve_ix (ve_var 0) (ve_int))) (va_cons (ve_ix (ve_var 0) (ve_int)) (va_nil))))))))
abbrev st_turned_by : Stmt := topS 26
theorem sc_turned_by : FnScope ["body", "turns", "turn", "one"] ["body", "turns"] (defScope st_turned_by) := ⟨rfl, rfl, rfl, by decide +kernel, rfl, by decide +kernel, by decide +kernel⟩
theorem ok_turned_by (T : Fc K mg) : FnOk P w K mg base CX0 2 T.f_turned_by T.fd_turned_by ["body", "turns"] (spV ⟨P, w, K⟩ 2 g_turned_by) :=
  fn_V (k := 1) T.F_turned_by sc_turned_by (fun cdv A outer s H E hr => vb_cons (vs_for PassesOwn.never rfl (vi_range1 (by rfl) T.z_range (va_cons (ve_var 1) (va_nil))) (vg_name 2 sc_turned_by.nd)
    (vb_one (vs_set (i := 0) (ve_tuple (by rfl) T.z_tuple (va_cons ((vf_comp rfl sc_turned_by.nd (own := [("one", 3)]) (blkOk_by (N := ["body", "turns", "turn", "one"]) (sc := defScope st_turned_by) (by decide +kernel)) (vi_seq (ve_var 0)) (fun b => ⟨vge_name 3 sc_turned_by.nd, vts_nil, vp_emit rfl (ve_fn (ok_quarter T) (hr.mono (by decide)) (by rfl) T.m_quarter T.F_quarter.kp T.b_quarter (va_cons (ve_var 3) (va_nil)))⟩)).ve) (va_nil))) sc_turned_by.nd)))
    (vb_one (vs_ret (ve_var 0))))
abbrev st_placed : Stmt := topS 33
theorem sc_placed : FnScope ["body", "standing", "x", "y", "turns", "one"] ["body", "standing"] (defScope st_placed) := ⟨rfl, rfl, rfl, by decide +kernel, rfl, by decide +kernel, by decide +kernel⟩
theorem ok_placed (T : Fc K mg) : FnOk P w K mg base CX0 3 T.f_placed T.fd_placed ["body", "standing"] (spV ⟨P, w, K⟩ 2 g_placed) :=
  fn_V (k := 2) T.F_placed sc_placed (fun cdv A outer s H E hr => vb_cons (vs_asg (ve_var 1) (vg_tup rfl (vgs_cons (vg_name 2 sc_placed.nd) (vgs_cons (vg_name 3 sc_placed.nd) (vgs_cons (vg_name 4 sc_placed.nd) (vgs_nil))))))
    (vb_one (vs_ret ((vf_comp rfl sc_placed.nd (own := [("one", 5)]) (blkOk_by (N := ["body", "standing", "x", "y", "turns", "one"]) (sc := defScope st_placed) (by decide +kernel)) (vi_seq (ve_fn (ok_turned_by T) (hr.mono (by decide)) (by rfl) T.m_turned_by T.F_turned_by.kp T.b_turned_by (va_cons (ve_var 0) (va_cons (ve_var 4) (va_nil))))) (fun b => ⟨vge_name 5 sc_placed.nd, vts_nil, vp_emit rfl (ve_tup (va_cons (ve_add (ve_ix (ve_var 5) (ve_int)) (ve_var 2)) (va_cons (ve_add (ve_ix (ve_var 5) (ve_int)) (ve_var 3)) (va_cons (ve_add (ve_ix (ve_var 5) (ve_int)) (ve_var 2)) (va_cons (ve_add (ve_ix (ve_var 5) (ve_int)) (ve_var 3)) (va_nil))))))⟩)).ve))))
abbrev st_stands : Stmt := topS 34
theorem sc_stands : FnScope ["room", "body", "standing", "one"] ["room", "body", "standing"] (defScope st_stands) := ⟨rfl, rfl, rfl, by decide +kernel, rfl, by decide +kernel, by decide +kernel⟩
theorem ok_stands (T : Fc K mg) : FnOk P w K mg base CX0 4 T.f_stands T.fd_stands ["room", "body", "standing"] (spV ⟨P, w, K⟩ 3 g_stands) :=
  fn_V (k := 3) T.F_stands sc_stands (fun cdv A outer s H E hr => vb_one (vs_ret (ve_all rfl (by rfl) T.z_all (va_cons ((vf_comp rfl sc_stands.nd (own := [("one", 3)]) (blkOk_by (N := ["room", "body", "standing", "one"]) (sc := defScope st_stands) (by decide +kernel)) (vi_seq (ve_fn (ok_placed T) (hr.mono (by decide)) (by rfl) T.m_placed T.F_placed.kp T.b_placed (va_cons (ve_var 1) (va_cons (ve_var 2) (va_nil))))) (fun b => ⟨vge_name 3 sc_stands.nd, vts_nil, vp_emit rfl (ve_fn (ok_fits T) (hr.mono (by decide)) (by rfl) T.m_fits T.F_fits.kp T.b_fits (va_cons (ve_var 0) (va_cons (ve_var 3) (va_nil))))⟩)).ve) (va_nil)))))
abbrev st_look_free : Stmt := topS 36
theorem sc_look_free : FnScope ["room", "body", "standing"] ["room", "body", "standing"] (defScope st_look_free) := ⟨rfl, rfl, rfl, by decide +kernel, rfl, by decide +kernel, by decide +kernel⟩
theorem okx_look_free (T : Fc K mg) : FnOk P w K mg base (L2.CX P w) 5 T.f_look_free T.fd_look_free ["room", "body", "standing"] (spX ⟨P, w, K⟩ mg 3 gx_look_free) :=
  fn_X (k := 4) T.F_look_free sc_look_free (fun cdv A outer s H E hr tk po => vbx_cons (vsx_expr (vex_fn (okx_look_standing T) (hr.mono (by decide)) (by rfl) T.m_look_standing T.F_look_standing.kp T.b_look_standing tk (va_cons (ve_var 2) (va_nil))))
    (vbx_one (vsx_if (vt_not (vt_val (ve_fn (ok_stands T) (hr.mono (by decide)) (by rfl) T.m_stands T.F_stands.kp T.b_stands (va_cons (ve_var 0) (va_cons (ve_var 1) (va_cons (ve_var 2) (va_nil)))))))
    (vbx_one (vsx_raiseO T.Y_NotFree (ok_ini T) (hr.mono (by decide)) T.b_ini rfl tk (by rfl) (va_cons (ve_var 2) (va_nil))))
    (vbx_of vb_nil))))
abbrev st_slides : Stmt := topS 37
theorem sc_slides : FnScope ["room", "body", "standing", "x", "y", "one", "left", "low", "right", "high"] ["room", "body", "standing", "x", "y"] (defScope st_slides) := ⟨rfl, rfl, rfl, by decide +kernel, rfl, by decide +kernel, by decide +kernel⟩
theorem ok_slides (T : Fc K mg) : FnOk P w K mg base CX0 4 T.f_slides T.fd_slides ["room", "body", "standing", "x", "y"] (spV ⟨P, w, K⟩ 5 g_slides) :=
  fn_V (k := 3) T.F_slides sc_slides (fun cdv A outer s H E hr => vb_cons (vs_for PassesOwn.never rfl (vi_seq (ve_fn (ok_placed T) (hr.mono (by decide)) (by rfl) T.m_placed T.F_placed.kp T.b_placed (va_cons (ve_var 1) (va_cons (ve_var 2) (va_nil))))) (vg_name 5 sc_slides.nd)
    (vb_cons (vs_asg (ve_var 5) (vg_tup rfl (vgs_cons (vg_name 6 sc_slides.nd) (vgs_cons (vg_name 7 sc_slides.nd) (vgs_cons (vg_name 8 sc_slides.nd) (vgs_cons (vg_name 9 sc_slides.nd) (vgs_nil)))))))
    (vb_one (vs_if (vt_not (vt_val (ve_fn (ok_fits T) (hr.mono (by decide)) (by rfl) T.m_fits T.F_fits.kp T.b_fits (va_cons (ve_var 0) (va_cons (ve_tup (va_cons (ve_add (ve_var 6) (ve_min2 rfl (by rfl) T.z_min (va_cons (ve_var 3) (va_cons (ve_int) (va_nil))))) (va_cons (ve_add (ve_var 7) (ve_min2 rfl (by rfl) T.z_min (va_cons (ve_var 4) (va_cons (ve_int) (va_nil))))) (va_cons (ve_add (ve_var 8) (ve_max2 rfl (by rfl) T.z_max (va_cons (ve_var 3) (va_cons (ve_int) (va_nil))))) (va_cons (ve_add (ve_var 9) (ve_max2 rfl (by rfl) T.z_max (va_cons (ve_var 4) (va_cons (ve_int) (va_nil))))) (va_nil)))))) (va_nil))))))
    (vb_one (vs_ret (ve_bl)))
    (vb_nil)))))
    (vb_one (vs_ret (ve_bl))))
abbrev st_farthest_slide : Stmt := topS 41
theorem sc_farthest_slide : FnScope ["room", "body", "standing", "x", "y", "found"] ["room", "body", "standing", "x", "y"] (defScope st_farthest_slide) := ⟨rfl, rfl, rfl, by decide +kernel, rfl, by decide +kernel, by decide +kernel⟩
theorem okx_farthest_slide (T : Fc K mg) : FnOk P w K mg base (L2.CX P w) 6 T.f_farthest_slide T.fd_farthest_slide ["room", "body", "standing", "x", "y"] (spX ⟨P, w, K⟩ mg 5 gx_farthest_slide) :=
  fn_X (k := 5) T.F_farthest_slide sc_farthest_slide (fun cdv A outer s H E hr tk po => vbx_cons (vsx_expr (vex_fn (okx_look_all T) (hr.mono (by decide)) (by rfl) T.m_look_all T.F_look_all.kp T.b_look_all tk (va_cons (ve_var 0) (va_cons (ve_var 1) (va_nil)))))
    (vbx_cons (vsx_expr (vex_fn (okx_look_free T) (hr.mono (by decide)) (by rfl) T.m_look_free T.F_look_free.kp T.b_look_free tk (va_cons (ve_var 0) (va_cons (ve_var 1) (va_cons (ve_var 2) (va_nil))))))
    (vbx_cons (vsx_if ((vw_or (vt_notIn (u65 hr) (ve_tup (va_cons (ve_var 3) (va_cons (ve_var 4) (va_nil)))) (ve_tup (va_cons (ve_tup (va_cons (ve_int) (va_cons (ve_int) (va_nil)))) (va_cons (ve_tup (va_cons (ve_neg (ve_int)) (va_cons (ve_int) (va_nil)))) (va_cons (ve_tup (va_cons (ve_int) (va_cons (ve_int) (va_nil)))) (va_cons (ve_tup (va_cons (ve_int) (va_cons (ve_neg (ve_int)) (va_nil)))) (va_nil))))))) (vw_or (vt_val (ve_isi .bool (by rfl) T.z_isinstance (by rfl) T.z_bool (ve_var 3))) (vw_or1 (vt_val (ve_isi .bool (by rfl) T.z_isinstance (by rfl) T.z_bool (ve_var 4)))))).vt)
    (vbx_one (vsx_raise T.X_BadNumber rfl tk (by rfl)))
    (vbx_of vb_nil))
    (vbx_of (vb_cons (vs_set (i := 5) (ve_int) sc_farthest_slide.nd)
    (vb_cons (vs_while 1000 PassesOwn.never (vt_val (ve_fn (ok_slides T) (hr.mono (by decide)) (by rfl) T.m_slides T.F_slides.kp T.b_slides (va_cons (ve_var 0) (va_cons (ve_var 1) (va_cons (ve_var 2) (va_cons (ve_mul (ve_var 3) (ve_add (ve_var 5) (ve_int))) (va_cons (ve_mul (ve_var 4) (ve_add (ve_var 5) (ve_int))) (va_nil))))))))
    (vb_one (vs_augI (i := 5) (ve_int) sc_farthest_slide.nd)))
    (vb_one (vs_ret (ve_var 5)))))))))
abbrev st_may_slide : Stmt := topS 38
theorem sc_may_slide : FnScope ["room", "body", "standing", "x", "y"] ["room", "body", "standing", "x", "y"] (defScope st_may_slide) := ⟨rfl, rfl, rfl, by decide +kernel, rfl, by decide +kernel, by decide +kernel⟩
theorem okx_may_slide (T : Fc K mg) : FnOk P w K mg base (L2.CX P w) 6 T.f_may_slide T.fd_may_slide ["room", "body", "standing", "x", "y"] (spX ⟨P, w, K⟩ mg 5 gx_may_slide) :=
  fn_X (k := 5) T.F_may_slide sc_may_slide (fun cdv A outer s H E hr tk po => vbx_cons (vsx_expr (vex_fn (okx_look_all T) (hr.mono (by decide)) (by rfl) T.m_look_all T.F_look_all.kp T.b_look_all tk (va_cons (ve_var 0) (va_cons (ve_var 1) (va_nil)))))
    (vbx_cons (vsx_expr (vex_fn (okx_look_free T) (hr.mono (by decide)) (by rfl) T.m_look_free T.F_look_free.kp T.b_look_free tk (va_cons (ve_var 0) (va_cons (ve_var 1) (va_cons (ve_var 2) (va_nil))))))
    (vbx_cons (vsx_if ((vw_or (vt_not (vt_val (ve_fn (ok_is_whole T) (hr.mono (by decide)) (by rfl) T.m_is_whole T.F_is_whole.kp T.b_is_whole (va_cons (ve_var 3) (va_cons (ve_neg (ve_gint (by rfl) T.c_FAR)) (va_cons (ve_gint (by rfl) T.c_FAR) (va_nil))))))) (vw_or (vt_not (vt_val (ve_fn (ok_is_whole T) (hr.mono (by decide)) (by rfl) T.m_is_whole T.F_is_whole.kp T.b_is_whole (va_cons (ve_var 4) (va_cons (ve_neg (ve_gint (by rfl) T.c_FAR)) (va_cons (ve_gint (by rfl) T.c_FAR) (va_nil))))))) (vw_or1 ((vw_and (vt_ne (u64 hr) (ve_var 3) (ve_int)) (vw_and1 (vt_ne (u64 hr) (ve_var 4) (ve_int)))).vt)))).vt)
    (vbx_one (vsx_raise T.X_BadNumber rfl tk (by rfl)))
    (vbx_of vb_nil))
    (vbx_of (vb_one (vs_ret (ve_fn (ok_slides T) (hr.mono (by decide)) (by rfl) T.m_slides T.F_slides.kp T.b_slides (va_cons (ve_var 0) (va_cons (ve_var 1) (va_cons (ve_var 2) (va_cons (ve_var 3) (va_cons (ve_var 4) (va_nil)))))))))))))
abbrev st__law_slide : Stmt := topS 74
theorem sc__law_slide : FnScope ["one", "px", "py", "far", "caught", "e", "room", "body"] ["one", "px", "py", "far"] (defScope st__law_slide) := ⟨rfl, rfl, rfl, by decide +kernel, rfl, by decide +kernel, by decide +kernel⟩
theorem ok__law_slide (T : Fc K mg) : FnOk P w K mg base CX0 7 T.f__law_slide T.fd__law_slide ["one", "px", "py", "far"] (spV ⟨P, w, K⟩ 4 g__law_slide) :=
  fn_V (k := 6) T.F__law_slide sc__law_slide (fun cdv A outer s H E hr => vb_cons (vs_set (i := 4) (ve_non) sc__law_slide.nd)
    (vb_cons (vs_asg (ve_tup (va_cons (ve_tup (va_cons (ve_int) (va_cons (ve_int) (va_cons (ve_tup (va_nil)) (va_nil))))) (va_cons (ve_tup (va_cons (ve_tup (va_cons (ve_int) (va_cons (ve_int) (va_cons (ve_int) (va_cons (ve_int) (va_nil)))))) (va_nil))) (va_nil)))) (vg_tup rfl (vgs_cons (vg_name 6 sc__law_slide.nd) (vgs_cons (vg_name 7 sc__law_slide.nd) (vgs_nil)))))
    (by refine vb_try1 (i := 5) (j := 4) rfl rfl rfl sc__law_slide.nd rfl rfl (by decide) rfl (by first | exact Or.inl rfl | exact Or.inr rfl) (by first | exact Or.inl rfl | exact Or.inr (Or.inl rfl) | exact Or.inr (Or.inr rfl)) (by first | exact Or.inl rfl | exact Or.inr (Or.inl rfl) | exact Or.inr (Or.inr rfl)) (by decide +kernel) (by decide +kernel) (by decide +kernel) (by decide +kernel) (by first | exact Or.inl rfl | exact Or.inr rfl) (by exact ⟨rfl, by decide +kernel, .inl T.C_WayError.g⟩) (gR_exm T) ?_ (ok__law_refusal T) (hr.mono (by decide)) (by rfl) T.m__law_refusal T.F__law_refusal.kp T.b__law_refusal (by decide +kernel) (fun _ _ _ => rfl) rfl rfl; exact (fun W pn xe tk po => vbx_one (vsx_if (vt_val (ve_var 3))
    (vbx_one (vsx_expr (vex_fnKS (okx_farthest_slide T) (hr.mono (by decide)) (by rfl) T.m_farthest_slide T.F_farthest_slide.kp T.b_farthest_slide tk (va_cons (ve_var 6) (va_cons (ve_var 7) (va_cons (ve_var 0) (va_nil)))) (vk_cons (ve_var 1) (vk_cons (ve_var 2) (vk_nil))) rfl)))
    (vbx_one (vsx_expr (vex_fnKS (okx_may_slide T) (hr.mono (by decide)) (by rfl) T.m_may_slide T.F_may_slide.kp T.b_may_slide tk (va_cons (ve_var 6) (va_cons (ve_var 7) (va_cons (ve_var 0) (va_nil)))) (vk_cons (ve_var 1) (vk_cons (ve_var 2) (vk_nil))) rfl))))))))
abbrev st_frame_of : Stmt := topS 27
theorem sc_frame_of : FnScope ["body", "one", "number"] ["body"] (defScope st_frame_of) := ⟨rfl, rfl, rfl, by decide +kernel, rfl, by decide +kernel, by decide +kernel⟩
theorem ok_frame_of (T : Fc K mg) : FnOk P w K mg base CX0 1 T.f_frame_of T.fd_frame_of ["body"] (spV ⟨P, w, K⟩ 1 g_frame_of) :=
  fn_V (k := 0) T.F_frame_of sc_frame_of (fun cdv A outer s H E hr => vb_one (vs_ret (ve_maxL rfl (by rfl) T.z_max (va_cons ((vf_comp rfl sc_frame_of.nd (own := [("one", 1), ("number", 2)]) (blkOk_by (N := ["body", "one", "number"]) (sc := defScope st_frame_of) (by decide +kernel)) (vi_seq (ve_var 0)) (fun b => ⟨vge_name 1 sc_frame_of.nd, vts_nil, vp_for (vs := [2]) (cmpL _ _ _ _ (by decide)) rfl rfl (vi_seq (ve_var 1)) (vge_name 2 sc_frame_of.nd) (vts_nil) (vp_emit rfl (ve_abs (by rfl) T.z_abs (va_cons (ve_var 2) (va_nil))))⟩)).ve) (va_nil)))))
abbrev st_turns_at : Stmt := topS 39
theorem sc_turns_at : FnScope ["room", "body", "x", "y", "wide"] ["room", "body", "x", "y"] (defScope st_turns_at) := ⟨rfl, rfl, rfl, by decide +kernel, rfl, by decide +kernel, by decide +kernel⟩
theorem ok_turns_at (T : Fc K mg) : FnOk P w K mg base CX0 3 T.f_turns_at T.fd_turns_at ["room", "body", "x", "y"] (spV ⟨P, w, K⟩ 4 g_turns_at) :=
  fn_V (k := 2) T.F_turns_at sc_turns_at (fun cdv A outer s H E hr => vb_cons (vs_set (i := 4) (ve_fn (ok_frame_of T) (hr.mono (by decide)) (by rfl) T.m_frame_of T.F_frame_of.kp T.b_frame_of (va_cons (ve_var 1) (va_nil))) sc_turns_at.nd)
    (vb_one (vs_ret (ve_fn (ok_fits T) (hr.mono (by decide)) (by rfl) T.m_fits T.F_fits.kp T.b_fits (va_cons (ve_var 0) (va_cons (ve_tup (va_cons (ve_sub (ve_var 2) (ve_var 4)) (va_cons (ve_sub (ve_var 3) (ve_var 4)) (va_cons (ve_add (ve_var 2) (ve_var 4)) (va_cons (ve_add (ve_var 3) (ve_var 4)) (va_nil)))))) (va_nil)))))))
abbrev st_may_turn : Stmt := topS 40
theorem sc_may_turn : FnScope ["room", "body", "standing"] ["room", "body", "standing"] (defScope st_may_turn) := ⟨rfl, rfl, rfl, by decide +kernel, rfl, by decide +kernel, by decide +kernel⟩
theorem okx_may_turn (T : Fc K mg) : FnOk P w K mg base (L2.CX P w) 6 T.f_may_turn T.fd_may_turn ["room", "body", "standing"] (spX ⟨P, w, K⟩ mg 3 gx_may_turn) :=
  fn_X (k := 5) T.F_may_turn sc_may_turn (fun cdv A outer s H E hr tk po => vbx_cons (vsx_expr (vex_fn (okx_look_all T) (hr.mono (by decide)) (by rfl) T.m_look_all T.F_look_all.kp T.b_look_all tk (va_cons (ve_var 0) (va_cons (ve_var 1) (va_nil)))))
    (vbx_cons (vsx_expr (vex_fn (okx_look_free T) (hr.mono (by decide)) (by rfl) T.m_look_free T.F_look_free.kp T.b_look_free tk (va_cons (ve_var 0) (va_cons (ve_var 1) (va_cons (ve_var 2) (va_nil))))))
    (vbx_of (vb_one (vs_ret (ve_fn (ok_turns_at T) (hr.mono (by decide)) (by rfl) T.m_turns_at T.F_turns_at.kp T.b_turns_at (va_cons (ve_var 0) (va_cons (ve_var 1) (va_cons (ve_ix (ve_var 2) (ve_int)) (va_cons (ve_ix (ve_var 2) (ve_int)) (va_nil)))))))))))
abbrev st_gap_between : Stmt := topS 65
theorem sc_gap_between : FnScope ["one", "other", "across", "upward"] ["one", "other"] (defScope st_gap_between) := ⟨rfl, rfl, rfl, by decide +kernel, rfl, by decide +kernel, by decide +kernel⟩
theorem ok_gap_between (T : Fc K mg) : FnOk P w K mg base CX0 1 T.f_gap_between T.fd_gap_between ["one", "other"] (spV ⟨P, w, K⟩ 2 g_gap_between) :=
  fn_V (k := 0) T.F_gap_between sc_gap_between (fun cdv A outer s H E hr => vb_cons (vs_set (i := 2) (ve_max2 rfl (by rfl) T.z_max (va_cons (ve_sub (ve_ix (ve_var 0) (ve_int)) (ve_ix (ve_var 1) (ve_int))) (va_cons (ve_sub (ve_ix (ve_var 1) (ve_int)) (ve_ix (ve_var 0) (ve_int))) (va_nil)))) sc_gap_between.nd)
    (vb_cons (vs_set (i := 3) (ve_max2 rfl (by rfl) T.z_max (va_cons (ve_sub (ve_ix (ve_var 0) (ve_int)) (ve_ix (ve_var 1) (ve_int))) (va_cons (ve_sub (ve_ix (ve_var 1) (ve_int)) (ve_ix (ve_var 0) (ve_int))) (va_nil)))) sc_gap_between.nd)
    (vb_one (vs_ret (ve_max3 rfl (by rfl) T.z_max (va_cons (ve_var 2) (va_cons (ve_var 3) (va_cons (ve_int) (va_nil)))))))))
abbrev st_room_at : Stmt := topS 66
theorem sc_room_at : FnScope ["room", "body", "standing", "found", "one", "wide", "high", "blocks", "block"] ["room", "body", "standing"] (defScope st_room_at) := ⟨rfl, rfl, rfl, by decide +kernel, rfl, by decide +kernel, by decide +kernel⟩
theorem ok_room_at (T : Fc K mg) : FnOk P w K mg base CX0 4 T.f_room_at T.fd_room_at ["room", "body", "standing"] (spV ⟨P, w, K⟩ 3 g_room_at) :=
  fn_V (k := 3) T.F_room_at sc_room_at (fun cdv A outer s H E hr => vb_cons (vs_asg (ve_var 0) (vg_tup rfl (vgs_cons (vg_name 5 sc_room_at.nd) (vgs_cons (vg_name 6 sc_room_at.nd) (vgs_cons (vg_name 7 sc_room_at.nd) (vgs_nil))))))
    (vb_cons (vs_setF (i := 3) (vf_lst (va_nil)) sc_room_at.nd)
    (vb_cons (vs_for PassesOwn.never rfl (vi_seq (ve_fn (ok_placed T) (hr.mono (by decide)) (by rfl) T.m_placed T.F_placed.kp T.b_placed (va_cons (ve_var 1) (va_cons (ve_var 2) (va_nil))))) (vg_name 4 sc_room_at.nd)
    (vb_cons (vs_ext 3 ((vf_lst (va_cons (ve_ix (ve_var 4) (ve_int)) (va_cons (ve_ix (ve_var 4) (ve_int)) (va_cons (ve_sub (ve_var 5) (ve_ix (ve_var 4) (ve_int))) (va_cons (ve_sub (ve_var 6) (ve_ix (ve_var 4) (ve_int))) (va_nil)))))).ve) sc_room_at.nd)
    (vb_one (vs_ext 3 ((vf_comp rfl sc_room_at.nd (own := [("block", 8)]) (blkOk_by (N := ["room", "body", "standing", "found", "one", "wide", "high", "blocks", "block"]) (sc := defScope st_room_at) (by decide +kernel)) (vi_seq (ve_var 7)) (fun b => ⟨vge_name 8 sc_room_at.nd, vts_nil, vp_emit rfl (ve_fn (ok_gap_between T) (hr.mono (by decide)) (by rfl) T.m_gap_between T.F_gap_between.kp T.b_gap_between (va_cons (ve_var 4) (va_cons (ve_var 8) (va_nil))))⟩)).ve) sc_room_at.nd))))
    (vb_one (vs_frz 3 (vs_ret (ve_minL rfl (by rfl) T.z_min (va_cons (ve_var 3) (va_nil)))))))))
abbrev st_clearance : Stmt := topS 67
theorem sc_clearance : FnScope ["room", "body", "standing"] ["room", "body", "standing"] (defScope st_clearance) := ⟨rfl, rfl, rfl, by decide +kernel, rfl, by decide +kernel, by decide +kernel⟩
theorem okx_clearance (T : Fc K mg) : FnOk P w K mg base (L2.CX P w) 6 T.f_clearance T.fd_clearance ["room", "body", "standing"] (spX ⟨P, w, K⟩ mg 3 gx_clearance) :=
  fn_X (k := 5) T.F_clearance sc_clearance (fun cdv A outer s H E hr tk po => vbx_cons (vsx_expr (vex_fn (okx_look_all T) (hr.mono (by decide)) (by rfl) T.m_look_all T.F_look_all.kp T.b_look_all tk (va_cons (ve_var 0) (va_cons (ve_var 1) (va_nil)))))
    (vbx_cons (vsx_expr (vex_fn (okx_look_free T) (hr.mono (by decide)) (by rfl) T.m_look_free T.F_look_free.kp T.b_look_free tk (va_cons (ve_var 0) (va_cons (ve_var 1) (va_cons (ve_var 2) (va_nil))))))
    (vbx_of (vb_one (vs_ret (ve_fn (ok_room_at T) (hr.mono (by decide)) (by rfl) T.m_room_at T.F_room_at.kp T.b_room_at (va_cons (ve_var 0) (va_cons (ve_var 1) (va_cons (ve_var 2) (va_nil))))))))))
abbrev st_edges_of : Stmt := topS 43
theorem sc_edges_of : FnScope ["room", "across", "upward", "wide", "high", "blocks", "block", "one"] ["room"] (defScope st_edges_of) := ⟨rfl, rfl, rfl, by decide +kernel, rfl, by decide +kernel, by decide +kernel⟩
theorem ok_edges_of (T : Fc K mg) : FnOk P w K mg base CX0 1 T.f_edges_of T.fd_edges_of ["room"] (spV ⟨P, w, K⟩ 1 g_edges_of) :=
  fn_V (k := 0) T.F_edges_of sc_edges_of (fun cdv A outer s H E hr => vb_cons (vs_asg (ve_var 0) (vg_tup rfl (vgs_cons (vg_name 3 sc_edges_of.nd) (vgs_cons (vg_name 4 sc_edges_of.nd) (vgs_cons (vg_name 5 sc_edges_of.nd) (vgs_nil))))))
    (vb_cons (vs_set (i := 1) ((vf_sortSet rfl (u64 hr) (by rfl) T.z_sorted (by rfl) T.z_set ((vf_cat ((vf_lst (va_cons (ve_int) (va_cons (ve_var 3) (va_nil)))).ve) ((vf_comp rfl sc_edges_of.nd (own := [("block", 6), ("one", 7)]) (blkOk_by (N := ["room", "across", "upward", "wide", "high", "blocks", "block", "one"]) (sc := defScope st_edges_of) (by decide +kernel)) (vi_seq (ve_var 5)) (fun b => ⟨vge_name 6 sc_edges_of.nd, vts_nil, vp_for (vs := [7]) (cmpL _ _ _ _ (by decide)) rfl rfl (vi_seq (ve_tup (va_cons (ve_ix (ve_var 6) (ve_int)) (va_cons (ve_ix (ve_var 6) (ve_int)) (va_nil))))) (vge_name 7 sc_edges_of.nd) (vts_nil) (vp_emit rfl (ve_var 7))⟩)).ve)).ve)).ve) sc_edges_of.nd)
    (vb_cons (vs_set (i := 2) ((vf_sortSet rfl (u64 hr) (by rfl) T.z_sorted (by rfl) T.z_set ((vf_cat ((vf_lst (va_cons (ve_int) (va_cons (ve_var 4) (va_nil)))).ve) ((vf_comp rfl sc_edges_of.nd (own := [("block", 6), ("one", 7)]) (blkOk_by (N := ["room", "across", "upward", "wide", "high", "blocks", "block", "one"]) (sc := defScope st_edges_of) (by decide +kernel)) (vi_seq (ve_var 5)) (fun b => ⟨vge_name 6 sc_edges_of.nd, vts_nil, vp_for (vs := [7]) (cmpL _ _ _ _ (by decide)) rfl rfl (vi_seq (ve_tup (va_cons (ve_ix (ve_var 6) (ve_int)) (va_cons (ve_ix (ve_var 6) (ve_int)) (va_nil))))) (vge_name 7 sc_edges_of.nd) (vts_nil) (vp_emit rfl (ve_var 7))⟩)).ve)).ve)).ve) sc_edges_of.nd)
    (vb_one (vs_ret (ve_tup (va_cons (ve_var 1) (va_cons (ve_var 2) (va_nil)))))))))
abbrev st_lines_for : Stmt := topS 44
theorem sc_lines_for : FnScope ["room", "body", "extra", "wide", "xs", "ys", "turns", "across", "upward", "rects", "one", "place", "rect"] ["room", "body", "extra"] (defScope st_lines_for) := ⟨rfl, rfl, rfl, by decide +kernel, rfl, by decide +kernel, by decide +kernel⟩
theorem ok_lines_for (T : Fc K mg) : FnOk P w K mg base CX0 3 T.f_lines_for T.fd_lines_for ["room", "body", "extra"] (spV ⟨P, w, K⟩ 3 g_lines_for) :=
  fn_V (k := 2) T.F_lines_for sc_lines_for (fun cdv A outer s H E hr => vb_cons (vs_asg (ve_fn (ok_edges_of T) (hr.mono (by decide)) (by rfl) T.m_edges_of T.F_edges_of.kp T.b_edges_of (va_cons (ve_var 0) (va_nil))) (vg_tup rfl (vgs_cons (vg_name 7 sc_lines_for.nd) (vgs_cons (vg_name 8 sc_lines_for.nd) (vgs_nil)))))
    (vb_cons (vs_set (i := 3) (ve_fn (ok_frame_of T) (hr.mono (by decide)) (by rfl) T.m_frame_of T.F_frame_of.kp T.b_frame_of (va_cons (ve_var 1) (va_nil))) sc_lines_for.nd)
    (vb_cons (vs_setComp (i := 4) rfl sc_lines_for.nd (own := [("one", 10)]) (blkOk_by (N := ["room", "body", "extra", "wide", "xs", "ys", "turns", "across", "upward", "rects", "one", "place", "rect"]) (sc := defScope st_lines_for) (by decide +kernel)) (vi_seq (ve_var 2)) (fun b => ⟨vge_name 10 sc_lines_for.nd, vts_nil, vp_emit rfl (ve_ix (ve_var 10) (ve_int))⟩) (sw_true rfl rfl rfl (by decide +kernel)))
    (vb_cons (vs_setComp (i := 5) rfl sc_lines_for.nd (own := [("one", 10)]) (blkOk_by (N := ["room", "body", "extra", "wide", "xs", "ys", "turns", "across", "upward", "rects", "one", "place", "rect"]) (sc := defScope st_lines_for) (by decide +kernel)) (vi_seq (ve_var 2)) (fun b => ⟨vge_name 10 sc_lines_for.nd, vts_nil, vp_emit rfl (ve_ix (ve_var 10) (ve_int))⟩) (sw_true rfl rfl rfl (by decide +kernel)))
    (vb_cons (vs_for PassesOwn.never rfl (vi_range1 (by rfl) T.z_range (va_cons (ve_int) (va_nil))) (vg_name 6 sc_lines_for.nd)
    (vb_cons (vs_set (i := 9) (ve_add (ve_fn (ok_turned_by T) (hr.mono (by decide)) (by rfl) T.m_turned_by T.F_turned_by.kp T.b_turned_by (va_cons (ve_var 1) (va_cons (ve_var 6) (va_nil)))) (ve_tup (va_cons (ve_tup (va_cons (ve_neg (ve_var 3)) (va_cons (ve_neg (ve_var 3)) (va_cons (ve_var 3) (va_cons (ve_var 3) (va_nil)))))) (va_nil)))) sc_lines_for.nd)
    (vb_cons (vs_ext 4 ((vf_comp rfl sc_lines_for.nd (own := [("place", 11), ("rect", 12), ("one", 10)]) (blkOk_by (N := ["room", "body", "extra", "wide", "xs", "ys", "turns", "across", "upward", "rects", "one", "place", "rect"]) (sc := defScope st_lines_for) (by decide +kernel)) (vi_seq (ve_var 7)) (fun b => ⟨vge_name 11 sc_lines_for.nd, vts_nil, vp_for (vs := [12]) (cmpL _ _ _ _ (by decide)) rfl rfl (vi_seq (ve_var 9)) (vge_name 12 sc_lines_for.nd) (vts_nil) (vp_for (vs := [10]) (cmpL _ _ _ _ (by decide)) rfl rfl (vi_seq (ve_tup (va_cons (ve_ix (ve_var 12) (ve_int)) (va_cons (ve_ix (ve_var 12) (ve_int)) (va_nil))))) (vge_name 10 sc_lines_for.nd) (vts_nil) (vp_emit rfl (ve_sub (ve_var 11) (ve_var 10))))⟩)).ve) sc_lines_for.nd)
    (vb_one (vs_ext 5 ((vf_comp rfl sc_lines_for.nd (own := [("place", 11), ("rect", 12), ("one", 10)]) (blkOk_by (N := ["room", "body", "extra", "wide", "xs", "ys", "turns", "across", "upward", "rects", "one", "place", "rect"]) (sc := defScope st_lines_for) (by decide +kernel)) (vi_seq (ve_var 8)) (fun b => ⟨vge_name 11 sc_lines_for.nd, vts_nil, vp_for (vs := [12]) (cmpL _ _ _ _ (by decide)) rfl rfl (vi_seq (ve_var 9)) (vge_name 12 sc_lines_for.nd) (vts_nil) (vp_for (vs := [10]) (cmpL _ _ _ _ (by decide)) rfl rfl (vi_seq (ve_tup (va_cons (ve_ix (ve_var 12) (ve_int)) (va_cons (ve_ix (ve_var 12) (ve_int)) (va_nil))))) (vge_name 10 sc_lines_for.nd) (vts_nil) (vp_emit rfl (ve_sub (ve_var 11) (ve_var 10))))⟩)).ve) sc_lines_for.nd)))))
    (vb_one (vs_frz 5 (vs_frz 4 (vs_ret (ve_tup (va_cons ((vf_sortSet rfl (u64 hr) (by rfl) T.z_sorted (by rfl) T.z_set (ve_var 4)).ve) (va_cons ((vf_sortSet rfl (u64 hr) (by rfl) T.z_sorted (by rfl) T.z_set (ve_var 5)).ve) (va_nil)))))))))))))
abbrev st_next_to : Stmt := topS 47
theorem sc_next_to : FnScope ["places", "one", "at"] ["places", "one"] (defScope st_next_to) := ⟨rfl, rfl, rfl, by decide +kernel, rfl, by decide +kernel, by decide +kernel⟩
theorem ok_next_to (T : Fc K mg) : FnOk P w K mg base CX0 1 T.f_next_to T.fd_next_to ["places", "one"] (spV ⟨P, w, K⟩ 2 g_next_to) :=
  fn_V (k := 0) T.F_next_to sc_next_to (fun cdv A outer s H E hr => vb_cons (vs_set (i := 2) (ve_index (ve_var 0) (ve_var 1) ⟨rfl, rfl, rfl, rfl, rfl⟩) sc_next_to.nd)
    (vb_one (vs_ret ((vf_cat ((vf_sl (ve_var 0) (vo_some (ve_max2 rfl (by rfl) T.z_max (va_cons (ve_int) (va_cons (ve_sub (ve_var 2) (ve_int)) (va_nil))))) (vo_some (ve_var 2))).ve) ((vf_sl (ve_var 0) (vo_some (ve_add (ve_var 2) (ve_int))) (vo_some (ve_add (ve_var 2) (ve_int)))).ve)).ve))))
abbrev st_neighbours : Stmt := topS 46
theorem sc_neighbours : FnScope ["room", "body", "xs", "ys", "standing", "found", "goal", "x", "y", "turns"] ["room", "body", "xs", "ys", "standing"] (defScope st_neighbours) := ⟨rfl, rfl, rfl, by decide +kernel, rfl, by decide +kernel, by decide +kernel⟩
theorem ok_neighbours (T : Fc K mg) : FnOk P w K mg base CX0 5 T.f_neighbours T.fd_neighbours ["room", "body", "xs", "ys", "standing"] (spV ⟨P, w, K⟩ 5 g_neighbours) :=
  fn_V (k := 4) T.F_neighbours sc_neighbours (fun cdv A outer s H E hr => vb_cons (vs_asg (ve_var 4) (vg_tup rfl (vgs_cons (vg_name 7 sc_neighbours.nd) (vgs_cons (vg_name 8 sc_neighbours.nd) (vgs_cons (vg_name 9 sc_neighbours.nd) (vgs_nil))))))
    (vb_cons (vs_setF (i := 5) (vf_lst (va_nil)) sc_neighbours.nd)
    (vb_cons (vs_for PassesOwn.never rfl (vi_seq (ve_fn (ok_next_to T) (hr.mono (by decide)) (by rfl) T.m_next_to T.F_next_to.kp T.b_next_to (va_cons (ve_var 2) (va_cons (ve_var 7) (va_nil))))) (vg_name 6 sc_neighbours.nd)
    (vb_one (vs_if (vt_val (ve_fn (ok_slides T) (hr.mono (by decide)) (by rfl) T.m_slides T.F_slides.kp T.b_slides (va_cons (ve_var 0) (va_cons (ve_var 1) (va_cons (ve_var 4) (va_cons (ve_sub (ve_var 6) (ve_var 7)) (va_cons (ve_int) (va_nil))))))))
    (vb_one (vs_app 5 ⟨rfl, by first | exact Or.inl rfl | exact Or.inr (Or.inl rfl) | exact Or.inr (Or.inr rfl), by decide +kernel, by decide +kernel⟩ (ve_tup (va_cons (ve_var 6) (va_cons (ve_var 8) (va_cons (ve_var 9) (va_nil))))) ⟨rfl, rfl, rfl, rfl, rfl⟩ rfl))
    (vb_nil))))
    (vb_cons (vs_for PassesOwn.never rfl (vi_seq (ve_fn (ok_next_to T) (hr.mono (by decide)) (by rfl) T.m_next_to T.F_next_to.kp T.b_next_to (va_cons (ve_var 3) (va_cons (ve_var 8) (va_nil))))) (vg_name 6 sc_neighbours.nd)
    (vb_one (vs_if (vt_val (ve_fn (ok_slides T) (hr.mono (by decide)) (by rfl) T.m_slides T.F_slides.kp T.b_slides (va_cons (ve_var 0) (va_cons (ve_var 1) (va_cons (ve_var 4) (va_cons (ve_int) (va_cons (ve_sub (ve_var 6) (ve_var 8)) (va_nil))))))))
    (vb_one (vs_app 5 ⟨rfl, by first | exact Or.inl rfl | exact Or.inr (Or.inl rfl) | exact Or.inr (Or.inr rfl), by decide +kernel, by decide +kernel⟩ (ve_tup (va_cons (ve_var 7) (va_cons (ve_var 6) (va_cons (ve_var 9) (va_nil))))) ⟨rfl, rfl, rfl, rfl, rfl⟩ rfl))
    (vb_nil))))
    (vb_cons (vs_if (vt_val (ve_fn (ok_turns_at T) (hr.mono (by decide)) (by rfl) T.m_turns_at T.F_turns_at.kp T.b_turns_at (va_cons (ve_var 0) (va_cons (ve_var 1) (va_cons (ve_var 7) (va_cons (ve_var 8) (va_nil)))))))
    (vb_one (vs_ext 5 ((vf_lst (va_cons (ve_tup (va_cons (ve_var 7) (va_cons (ve_var 8) (va_cons (ve_mod (ve_add (ve_var 9) (ve_int)) (ve_int)) (va_nil))))) (va_cons (ve_tup (va_cons (ve_var 7) (va_cons (ve_var 8) (va_cons (ve_mod (ve_add (ve_var 9) (ve_int)) (ve_int)) (va_nil))))) (va_nil)))).ve) sc_neighbours.nd))
    (vb_nil))
    (vb_one (vs_frz 5 (vs_ret ((vf_sorted (u64 hr) (by rfl) T.z_sorted (va_cons (ve_var 5) (va_nil))).ve)))))))))
abbrev st_come_to : Stmt := topS 58
theorem sc_come_to : FnScope ["room", "body", "start", "extra", "seen", "order", "at", "xs", "ys", "there"] ["room", "body", "start", "extra"] (defScope st_come_to) := ⟨rfl, rfl, rfl, by decide +kernel, rfl, by decide +kernel, by decide +kernel⟩
theorem ok_come_to (T : Fc K mg) : FnOk P w K mg base CX0 6 T.f_come_to T.fd_come_to ["room", "body", "start", "extra"] (spV ⟨P, w, K⟩ 4 g_come_to) :=
  fn_V (k := 5) T.F_come_to sc_come_to (fun cdv A outer s H E hr => vb_cons (vs_asg (ve_fn (ok_lines_for T) (hr.mono (by decide)) (by rfl) T.m_lines_for T.F_lines_for.kp T.b_lines_for (va_cons (ve_var 0) (va_cons (ve_var 1) (va_cons (ve_var 3) (va_nil))))) (vg_tup rfl (vgs_cons (vg_name 7 sc_come_to.nd) (vgs_cons (vg_name 8 sc_come_to.nd) (vgs_nil)))))
    (vb_cons (vs_no)
    (vb_cons (vs_setF (i := 5) (vf_lst (va_cons (ve_var 2) (va_nil))) sc_come_to.nd)
    (vb_cons (vs_set (i := 6) (ve_int) sc_come_to.nd)
    (vb_cons (vs_while 1000 PassesOwn.never (vt_lt (ve_var 6) (ve_lenO 5 ⟨rfl, by first | exact Or.inl rfl | exact Or.inr (Or.inl rfl) | exact Or.inr (Or.inr rfl), by decide +kernel, by decide +kernel⟩ (by rfl) T.z_len ⟨rfl, rfl⟩))
    (vb_cons (vs_for PassesOwn.never rfl (vi_seq (ve_fn (ok_neighbours T) (hr.mono (by decide)) (by rfl) T.m_neighbours T.F_neighbours.kp T.b_neighbours (va_cons (ve_var 0) (va_cons (ve_var 1) (va_cons (ve_var 7) (va_cons (ve_var 8) (va_cons (ve_ixO 5 ⟨rfl, by first | exact Or.inl rfl | exact Or.inr (Or.inl rfl) | exact Or.inr (Or.inr rfl), by decide +kernel, by decide +kernel⟩ (ve_var 6)) (va_nil)))))))) (vg_name 9 sc_come_to.nd)
    (vb_one (vs_if (vt_notInY (u1 hr) (ve_var 9) (ve_var 4))
    (vb_cons (vs_no)
    (vb_one (vs_app 5 ⟨rfl, by first | exact Or.inl rfl | exact Or.inr (Or.inl rfl) | exact Or.inr (Or.inr rfl), by decide +kernel, by decide +kernel⟩ (ve_var 9) ⟨rfl, rfl, rfl, rfl, rfl⟩ rfl)))
    (vb_nil))))
    (vb_one (vs_augI (i := 6) (ve_int) sc_come_to.nd))))
    (vb_one (vs_frz 5 (vs_ret ((vf_sorted (u64 hr) (by rfl) T.z_sorted (va_cons (ve_var 5) (va_nil))).ve)))))))))
abbrev st_reach : Stmt := topS 59
theorem sc_reach : FnScope ["room", "body", "start", "found", "one"] ["room", "body", "start"] (defScope st_reach) := ⟨rfl, rfl, rfl, by decide +kernel, rfl, by decide +kernel, by decide +kernel⟩
theorem okx_reach (T : Fc K mg) : FnOk P w K mg base (L2.CX P w) 7 T.f_reach T.fd_reach ["room", "body", "start"] (spX ⟨P, w, K⟩ mg 3 gx_reach) :=
  fn_X (k := 6) T.F_reach sc_reach (fun cdv A outer s H E hr tk po => vbx_cons (vsx_expr (vex_fn (okx_look_all T) (hr.mono (by decide)) (by rfl) T.m_look_all T.F_look_all.kp T.b_look_all tk (va_cons (ve_var 0) (va_cons (ve_var 1) (va_nil)))))
    (vbx_cons (vsx_expr (vex_fn (okx_look_free T) (hr.mono (by decide)) (by rfl) T.m_look_free T.F_look_free.kp T.b_look_free tk (va_cons (ve_var 0) (va_cons (ve_var 1) (va_cons (ve_var 2) (va_nil))))))
    (vbx_of (vb_cons (vs_set (i := 3) (ve_fn (ok_come_to T) (hr.mono (by decide)) (by rfl) T.m_come_to T.F_come_to.kp T.b_come_to (va_cons (ve_var 0) (va_cons (ve_var 1) (va_cons (ve_var 2) (va_cons ((vf_lst (va_cons (ve_var 2) (va_nil))).ve) (va_nil)))))) sc_reach.nd)
    (vb_one (vs_no))))))
abbrev st_lines : Stmt := topS 45
theorem sc_lines : FnScope ["room", "body", "extra", "one"] ["room", "body", "extra"] (defScope st_lines) := ⟨rfl, rfl, rfl, by decide +kernel, rfl, by decide +kernel, by decide +kernel⟩
theorem okx_lines (T : Fc K mg) : FnOk P w K mg base (L2.CX P w) 5 T.f_lines T.fd_lines ["room", "body", "extra"] (spX ⟨P, w, K⟩ mg 3 gx_lines) :=
  fn_XD (st := topS 45) (k := 4) T.F_lines sc_lines (fun cdv A outer s H E hr tk po => vbx_cons (vsx_expr (vex_fn (okx_look_room T) (hr.mono (by decide)) (by rfl) T.m_look_room T.F_look_room.kp T.b_look_room tk (va_cons (ve_var 0) (va_nil))))
    (vbx_cons (vsx_expr (vex_fn (okx_look_body T) (hr.mono (by decide)) (by rfl) T.m_look_body T.F_look_body.kp T.b_look_body tk (va_cons (ve_var 1) (va_nil))))
    (vbx_cons (vsx_if (vt_not (vt_val (ve_isi2E .list .tuple (by rfl) T.z_isinstance (by rfl) T.z_list (by rfl) T.z_tuple (ve_var 2))))
    (vbx_one (vsx_raise T.X_BadStanding rfl tk (by rfl)))
    (vbx_of vb_nil))
    (vbx_cons (vsx_for po rfl (vi_seq (ve_var 2)) (vg_name 3 sc_lines.nd)
    (vbx_one (vsx_expr (vex_fn (okx_look_standing T) (hr.mono (by decide)) (by rfl) T.m_look_standing T.F_look_standing.kp T.b_look_standing tk (va_cons (ve_var 3) (va_nil))))))
    (vbx_of (vb_one (vs_ret (ve_fn (ok_lines_for T) (hr.mono (by decide)) (by rfl) T.m_lines_for T.F_lines_for.kp T.b_lines_for (va_cons (ve_var 0) (va_cons (ve_var 1) (va_cons (ve_var 2) (va_nil))))))))))))
abbrev st_corners : Stmt := topS 48
theorem sc_corners : FnScope ["room", "body", "extra", "xs", "ys", "x", "y", "turns"] ["room", "body", "extra"] (defScope st_corners) := ⟨rfl, rfl, rfl, by decide +kernel, rfl, by decide +kernel, by decide +kernel⟩
theorem okx_corners (T : Fc K mg) : FnOk P w K mg base (L2.CX P w) 6 T.f_corners T.fd_corners ["room", "body", "extra"] (spX ⟨P, w, K⟩ mg 3 gx_corners) :=
  fn_XD (st := topS 48) (k := 5) T.F_corners sc_corners (fun cdv A outer s H E hr tk po => vbx_cons (vsx_asg (vex_fn (okx_lines T) (hr.mono (by decide)) (by rfl) T.m_lines T.F_lines.kp T.b_lines tk (va_cons (ve_var 0) (va_cons (ve_var 1) (va_cons (ve_var 2) (va_nil))))) (vg_tup rfl (vgs_cons (vg_name 3 sc_corners.nd) (vgs_cons (vg_name 4 sc_corners.nd) (vgs_nil)))))
    (vbx_of (vb_one (vs_ret ((vf_comp rfl sc_corners.nd (own := [("x", 5), ("y", 6), ("turns", 7)]) (blkOk_by (N := ["room", "body", "extra", "xs", "ys", "x", "y", "turns"]) (sc := defScope st_corners) (by decide +kernel)) (vi_seq (ve_var 3)) (fun b => ⟨vge_name 5 sc_corners.nd, vts_nil, vp_for (vs := [6]) (cmpL _ _ _ _ (by decide)) rfl rfl (vi_seq (ve_var 4)) (vge_name 6 sc_corners.nd) (vts_nil) (vp_for (vs := [7]) (cmpL _ _ _ _ (by decide)) rfl rfl (vi_range1 (by rfl) T.z_range (va_cons (ve_int) (va_nil))) (vge_name 7 sc_corners.nd) (vts_one (vt_val (ve_fn (ok_stands T) (hr.mono (by decide)) (by rfl) T.m_stands T.F_stands.kp T.b_stands (va_cons (ve_var 0) (va_cons (ve_var 1) (va_cons (ve_tup (va_cons (ve_var 5) (va_cons (ve_var 6) (va_cons (ve_var 7) (va_nil))))) (va_nil))))))) (vp_emit rfl (ve_tup (va_cons (ve_var 5) (va_cons (ve_var 6) (va_cons (ve_var 7) (va_nil)))))))⟩)).ve)))))
abbrev st_parts_of : Stmt := topS 62
theorem sc_parts_of : FnScope ["room", "body", "left", "found", "seen", "start", "xs", "ys", "order", "at", "there"] ["room", "body"] (defScope st_parts_of) := ⟨rfl, rfl, rfl, by decide +kernel, rfl, by decide +kernel, by decide +kernel⟩
theorem okx_parts_of (T : Fc K mg) : FnOk P w K mg base (L2.CX P w) 7 T.f_parts_of T.fd_parts_of ["room", "body"] (spX ⟨P, w, K⟩ mg 2 gx_parts_of) :=
  fn_X (k := 6) T.F_parts_of sc_parts_of (fun cdv A outer s H E hr tk po => vbx_cons (vsx_expr (vex_fn (okx_look_all T) (hr.mono (by decide)) (by rfl) T.m_look_all T.F_look_all.kp T.b_look_all tk (va_cons (ve_var 0) (va_cons (ve_var 1) (va_nil)))))
    (vbx_cons (vsx_asg (vex_fnE (okx_corners T) (hr.mono (by decide)) (by rfl) T.m_corners T.F_corners.kp T.bd_corners T.e_corners tk (va_cons (ve_var 0) (va_cons (ve_var 1) (va_nil))) rfl) (vg_name 2 sc_parts_of.nd))
    (vbx_of (vb_cons (vs_asg (ve_fn (ok_lines_for T) (hr.mono (by decide)) (by rfl) T.m_lines_for T.F_lines_for.kp T.b_lines_for (va_cons (ve_var 0) (va_cons (ve_var 1) (va_cons ((vf_lst (va_nil)).ve) (va_nil))))) (vg_tup rfl (vgs_cons (vg_name 6 sc_parts_of.nd) (vgs_cons (vg_name 7 sc_parts_of.nd) (vgs_nil)))))
    (vb_cons (vs_setF (i := 3) (vf_lst (va_nil)) sc_parts_of.nd)
    (vb_cons (vs_setF (i := 4) (vf_dict0) sc_parts_of.nd)
    (vb_cons (vs_for PassesOwn.never rfl (vi_seq (ve_var 2)) (vg_name 5 sc_parts_of.nd)
    (vb_one (vs_if (vt_notInYO 4 ⟨rfl, by first | exact Or.inl rfl | exact Or.inr (Or.inl rfl) | exact Or.inr (Or.inr rfl), by decide +kernel, by decide +kernel⟩ (u1 hr) (ve_var 5))
    (vb_cons (vs_putY 4 ⟨rfl, by first | exact Or.inl rfl | exact Or.inr (Or.inl rfl) | exact Or.inr (Or.inr rfl), by decide +kernel, by decide +kernel⟩ (u1 hr) (ve_var 5) (ve_bl))
    (vb_cons (vs_setF (i := 8) (vf_lst (va_cons (ve_var 5) (va_nil))) sc_parts_of.nd)
    (vb_cons (vs_set (i := 9) (ve_int) sc_parts_of.nd)
    (vb_cons (vs_while 1000 PassesOwn.never (vt_lt (ve_var 9) (ve_lenO 8 ⟨rfl, by first | exact Or.inl rfl | exact Or.inr (Or.inl rfl) | exact Or.inr (Or.inr rfl), by decide +kernel, by decide +kernel⟩ (by rfl) T.z_len ⟨rfl, rfl⟩))
    (vb_cons (vs_for PassesOwn.never rfl (vi_seq (ve_fn (ok_neighbours T) (hr.mono (by decide)) (by rfl) T.m_neighbours T.F_neighbours.kp T.b_neighbours (va_cons (ve_var 0) (va_cons (ve_var 1) (va_cons (ve_var 6) (va_cons (ve_var 7) (va_cons (ve_ixO 8 ⟨rfl, by first | exact Or.inl rfl | exact Or.inr (Or.inl rfl) | exact Or.inr (Or.inr rfl), by decide +kernel, by decide +kernel⟩ (ve_var 9)) (va_nil)))))))) (vg_name 10 sc_parts_of.nd)
    (vb_one (vs_if (vt_notInYO 4 ⟨rfl, by first | exact Or.inl rfl | exact Or.inr (Or.inl rfl) | exact Or.inr (Or.inr rfl), by decide +kernel, by decide +kernel⟩ (u1 hr) (ve_var 10))
    (vb_cons (vs_putY 4 ⟨rfl, by first | exact Or.inl rfl | exact Or.inr (Or.inl rfl) | exact Or.inr (Or.inr rfl), by decide +kernel, by decide +kernel⟩ (u1 hr) (ve_var 10) (ve_bl))
    (vb_one (vs_app 8 ⟨rfl, by first | exact Or.inl rfl | exact Or.inr (Or.inl rfl) | exact Or.inr (Or.inr rfl), by decide +kernel, by decide +kernel⟩ (ve_var 10) ⟨rfl, rfl, rfl, rfl, rfl⟩ rfl)))
    (vb_nil))))
    (vb_one (vs_augI (i := 9) (ve_int) sc_parts_of.nd))))
    (vb_one (vs_frz 8 (vs_app 3 ⟨rfl, by first | exact Or.inl rfl | exact Or.inr (Or.inl rfl) | exact Or.inr (Or.inr rfl), by decide +kernel, by decide +kernel⟩ ((vf_sorted (u64 hr) (by rfl) T.z_sorted (va_cons (ve_var 8) (va_nil))).ve) ⟨rfl, rfl, rfl, rfl, rfl⟩ rfl)))))))
    (vb_nil))))
    (vb_one (vs_retO 3)))))))))
abbrev st_parts : Stmt := topS 61
theorem sc_parts : FnScope ["room", "body", "one"] ["room", "body"] (defScope st_parts) := ⟨rfl, rfl, rfl, by decide +kernel, rfl, by decide +kernel, by decide +kernel⟩
theorem okx_parts (T : Fc K mg) : FnOk P w K mg base (L2.CX P w) 8 T.f_parts T.fd_parts ["room", "body"] (spX ⟨P, w, K⟩ mg 2 gx_parts) :=
  fn_X (k := 7) T.F_parts sc_parts (fun cdv A outer s H E hr tk po => vbx_one (vsx_ret (vro_comp (own := [("one", 2)]) (vex_fn (okx_parts_of T) (hr.mono (by decide)) (by rfl) T.m_parts_of T.F_parts_of.kp T.b_parts_of tk (va_cons (ve_var 0) (va_cons (ve_var 1) (va_nil)))) (blkOk_by (N := ["room", "body", "one"]) (sc := defScope st_parts) (by decide +kernel)))))
abbrev st_part_of : Stmt := topS 63
theorem sc_part_of : FnScope ["room", "body", "standing", "there", "firsts", "k"] ["room", "body", "standing"] (defScope st_part_of) := ⟨rfl, rfl, rfl, by decide +kernel, rfl, by decide +kernel, by decide +kernel⟩
theorem okx_part_of (T : Fc K mg) : FnOk P w K mg base (L2.CX P w) 9 T.f_part_of T.fd_part_of ["room", "body", "standing"] (spX ⟨P, w, K⟩ mg 3 gx_part_of) :=
  fn_X (k := 8) T.F_part_of sc_part_of (fun cdv A outer s H E hr tk po => vbx_cons (vsx_expr (vex_fn (okx_look_all T) (hr.mono (by decide)) (by rfl) T.m_look_all T.F_look_all.kp T.b_look_all tk (va_cons (ve_var 0) (va_cons (ve_var 1) (va_nil)))))
    (vbx_cons (vsx_expr (vex_fn (okx_look_free T) (hr.mono (by decide)) (by rfl) T.m_look_free T.F_look_free.kp T.b_look_free tk (va_cons (ve_var 0) (va_cons (ve_var 1) (va_cons (ve_var 2) (va_nil))))))
    (vbx_cons (vsx_of (vs_set (i := 3) (ve_fn (ok_come_to T) (hr.mono (by decide)) (by rfl) T.m_come_to T.F_come_to.kp T.b_come_to (va_cons (ve_var 0) (va_cons (ve_var 1) (va_cons (ve_var 2) (va_cons ((vf_lst (va_cons (ve_var 2) (va_nil))).ve) (va_nil)))))) sc_part_of.nd))
    (vbx_cons (vsx_asg (vex_fn (okx_parts T) (hr.mono (by decide)) (by rfl) T.m_parts T.F_parts.kp T.b_parts tk (va_cons (ve_var 0) (va_cons (ve_var 1) (va_nil)))) (vg_name 4 sc_part_of.nd))
    (vbx_of (vb_one (vs_ret (ve_ix ((vf_comp rfl sc_part_of.nd (own := [("k", 5)]) (blkOk_by (N := ["room", "body", "standing", "there", "firsts", "k"]) (sc := defScope st_part_of) (by decide +kernel)) (vi_range1 (by rfl) T.z_range (va_cons (ve_len (by rfl) T.z_len (va_cons (ve_var 4) (va_nil))) (va_nil))) (fun b => ⟨vge_name 5 sc_part_of.nd, vts_one (vt_in (u65 hr) (ve_ix (ve_var 4) (ve_var 5)) (ve_var 3)), vp_emit rfl (ve_var 5)⟩)).ve) (ve_int)))))))))
abbrev st_look_number : Stmt := topS 11
theorem sc_look_number : FnScope ["thing", "low", "high"] ["thing", "low", "high"] (defScope st_look_number) := ⟨rfl, rfl, rfl, by decide +kernel, rfl, by decide +kernel, by decide +kernel⟩
theorem okx_look_number (T : Fc K mg) : FnOk P w K mg base (L2.CX P w) 2 T.f_look_number T.fd_look_number ["thing", "low", "high"] (spX ⟨P, w, K⟩ mg 3 gx_look_number) :=
  fn_X (k := 1) T.F_look_number sc_look_number (fun cdv A outer s H E hr tk po => vbx_one (vsx_if (vt_not (vt_val (ve_fn (ok_is_whole T) (hr.mono (by decide)) (by rfl) T.m_is_whole T.F_is_whole.kp T.b_is_whole (va_cons (ve_var 0) (va_cons (ve_var 1) (va_cons (ve_var 2) (va_nil)))))))
    (vbx_one (vsx_raise T.X_BadNumber rfl tk (by rfl)))
    (vbx_of vb_nil)))
abbrev st_led_back : Stmt := topS 53
theorem sc_led_back : FnScope ["came", "goal", "row"] ["came", "goal"] (defScope st_led_back) := ⟨rfl, rfl, rfl, by decide +kernel, rfl, by decide +kernel, by decide +kernel⟩
theorem ok_led_back (T : Fc K mg) : FnOk P w K mg base CX0 1 T.f_led_back T.fd_led_back ["came", "goal"] (spV ⟨P, w, K⟩ 2 g_led_back) :=
  fn_V (k := 0) T.F_led_back sc_led_back (fun cdv A outer s H E hr => vb_cons (vs_setF (i := 2) (vf_lst (va_cons (ve_var 1) (va_nil))) sc_led_back.nd)
    (vb_cons (vs_while 1000 PassesOwn.never (vt_isnt (ve_ixY (u1 hr) (ve_var 0) (ve_ixO 2 ⟨rfl, by first | exact Or.inl rfl | exact Or.inr (Or.inl rfl) | exact Or.inr (Or.inr rfl), by decide +kernel, by decide +kernel⟩ (ve_neg (ve_int)))) (ve_non))
    (vb_one (vs_app 2 ⟨rfl, by first | exact Or.inl rfl | exact Or.inr (Or.inl rfl) | exact Or.inr (Or.inr rfl), by decide +kernel, by decide +kernel⟩ (ve_ixY (u1 hr) (ve_var 0) (ve_ixO 2 ⟨rfl, by first | exact Or.inl rfl | exact Or.inr (Or.inl rfl) | exact Or.inr (Or.inr rfl), by decide +kernel, by decide +kernel⟩ (ve_neg (ve_int)))) ⟨rfl, rfl, rfl, rfl, rfl⟩ rfl)))
    (vb_one (vs_frz 2 (vs_ret ((vf_rev (ve_var 2)).ve))))))
abbrev st_length_of : Stmt := topS 51
theorem sc_length_of : FnScope ["one", "other", "price"] ["one", "other", "price"] (defScope st_length_of) := ⟨rfl, rfl, rfl, by decide +kernel, rfl, by decide +kernel, by decide +kernel⟩
theorem ok_length_of (T : Fc K mg) : FnOk P w K mg base CX0 1 T.f_length_of T.fd_length_of ["one", "other", "price"] (spV ⟨P, w, K⟩ 3 g_length_of) :=
  fn_V (k := 0) T.F_length_of sc_length_of (fun cdv A outer s H E hr => vb_cons (vs_if (vt_ne (u64 hr) (ve_ix (ve_var 0) (ve_int)) (ve_ix (ve_var 1) (ve_int)))
    (vb_one (vs_ret (ve_var 2)))
    (vb_nil))
    (vb_one (vs_ret (ve_add (ve_abs (by rfl) T.z_abs (va_cons (ve_sub (ve_ix (ve_var 0) (ve_int)) (ve_ix (ve_var 1) (ve_int))) (va_nil))) (ve_abs (by rfl) T.z_abs (va_cons (ve_sub (ve_ix (ve_var 0) (ve_int)) (ve_ix (ve_var 1) (ve_int))) (va_nil)))))))
abbrev st_sought : Stmt := topS 52
theorem sc_sought : FnScope ["room", "body", "start", "goal", "price", "levels", "came", "best", "done", "xs", "ys", "cost", "here", "there", "far"] ["room", "body", "start", "goal", "price"] (defScope st_sought) := ⟨rfl, rfl, rfl, by decide +kernel, rfl, by decide +kernel, by decide +kernel⟩
theorem ok_sought (T : Fc K mg) : FnOk P w K mg base CX0 6 T.f_sought T.fd_sought ["room", "body", "start", "goal", "price"] (spV ⟨P, w, K⟩ 5 g_sought) :=
  fn_V (k := 5) T.F_sought sc_sought (fun cdv A outer s H E hr => vb_cons (vs_asg (ve_fn (ok_lines_for T) (hr.mono (by decide)) (by rfl) T.m_lines_for T.F_lines_for.kp T.b_lines_for (va_cons (ve_var 0) (va_cons (ve_var 1) (va_cons ((vf_lst (va_cons (ve_var 2) (va_cons (ve_var 3) (va_nil)))).ve) (va_nil))))) (vg_tup rfl (vgs_cons (vg_name 9 sc_sought.nd) (vgs_cons (vg_name 10 sc_sought.nd) (vgs_nil)))))
    (vb_cons (vs_no)
    (vb_cons (vs_no)
    (vb_cons (vs_no)
    (vb_cons (vs_setF (i := 8) (vf_dict0) sc_sought.nd)
    (vb_cons (vs_no)
    (vb_one (vs_ret (ve_non)))))))))
abbrev st_is_straight : Stmt := topS 55
theorem sc_is_straight : FnScope ["one", "two", "three", "across", "upward"] ["one", "two", "three"] (defScope st_is_straight) := ⟨rfl, rfl, rfl, by decide +kernel, rfl, by decide +kernel, by decide +kernel⟩
theorem ok_is_straight (T : Fc K mg) : FnOk P w K mg base CX0 1 T.f_is_straight T.fd_is_straight ["one", "two", "three"] (spV ⟨P, w, K⟩ 3 g_is_straight) :=
  fn_V (k := 0) T.F_is_straight sc_is_straight (fun cdv A outer s H E hr => vb_cons (vs_if (vt_not (vt_chain (op_eqD (u64 hr)) (op_eqD (u64 hr)) sr_eq sr_eq (ve_ix (ve_var 0) (ve_int)) (ve_ix (ve_var 1) (ve_int)) (ve_ix (ve_var 2) (ve_int))))
    (vb_one (vs_ret (ve_bl)))
    (vb_nil))
    (vb_cons (vs_set (i := 3) (ve_and (ve_chain (op_eqD (u64 hr)) (op_eqD (u64 hr)) sr_eq sr_eq (ve_ix (ve_var 0) (ve_int)) (ve_ix (ve_var 1) (ve_int)) (ve_ix (ve_var 2) (ve_int))) (ve_one (ve_gt (ve_mul (ve_sub (ve_ix (ve_var 1) (ve_int)) (ve_ix (ve_var 0) (ve_int))) (ve_sub (ve_ix (ve_var 2) (ve_int)) (ve_ix (ve_var 1) (ve_int)))) (ve_int)))) sc_is_straight.nd)
    (vb_cons (vs_set (i := 4) (ve_and (ve_chain (op_eqD (u64 hr)) (op_eqD (u64 hr)) sr_eq sr_eq (ve_ix (ve_var 0) (ve_int)) (ve_ix (ve_var 1) (ve_int)) (ve_ix (ve_var 2) (ve_int))) (ve_one (ve_gt (ve_mul (ve_sub (ve_ix (ve_var 1) (ve_int)) (ve_ix (ve_var 0) (ve_int))) (ve_sub (ve_ix (ve_var 2) (ve_int)) (ve_ix (ve_var 1) (ve_int)))) (ve_int)))) sc_is_straight.nd)
    (vb_one (vs_ret (ve_or (ve_var 3) (ve_one (ve_var 4))))))))
abbrev st_shortened : Stmt := topS 54
theorem sc_shortened : FnScope ["row", "found", "one"] ["row"] (defScope st_shortened) := ⟨rfl, rfl, rfl, by decide +kernel, rfl, by decide +kernel, by decide +kernel⟩
theorem ok_shortened (T : Fc K mg) : FnOk P w K mg base CX0 2 T.f_shortened T.fd_shortened ["row"] (spV ⟨P, w, K⟩ 1 g_shortened) :=
  fn_V (k := 1) T.F_shortened sc_shortened (fun cdv A outer s H E hr => vb_cons (vs_setF (i := 1) (vf_lst (va_nil)) sc_shortened.nd)
    (vb_cons (vs_for PassesOwn.never rfl (vi_seq (ve_var 0)) (vg_name 2 sc_shortened.nd)
    (vb_cons (vs_while 1000 PassesOwn.never ((vw_and (vt_gt (ve_lenO 1 ⟨rfl, by first | exact Or.inl rfl | exact Or.inr (Or.inl rfl) | exact Or.inr (Or.inr rfl), by decide +kernel, by decide +kernel⟩ (by rfl) T.z_len ⟨rfl, rfl⟩) (ve_int)) (vw_and1 (vt_val (ve_fn (ok_is_straight T) (hr.mono (by decide)) (by rfl) T.m_is_straight T.F_is_straight.kp T.b_is_straight (va_cons (ve_ixO 1 ⟨rfl, by first | exact Or.inl rfl | exact Or.inr (Or.inl rfl) | exact Or.inr (Or.inr rfl), by decide +kernel, by decide +kernel⟩ (ve_neg (ve_int))) (va_cons (ve_ixO 1 ⟨rfl, by first | exact Or.inl rfl | exact Or.inr (Or.inl rfl) | exact Or.inr (Or.inr rfl), by decide +kernel, by decide +kernel⟩ (ve_neg (ve_int))) (va_cons (ve_var 2) (va_nil)))))))).vt)
    (vb_one (vs_no)))
    (vb_one (vs_app 1 ⟨rfl, by first | exact Or.inl rfl | exact Or.inr (Or.inl rfl) | exact Or.inr (Or.inr rfl), by decide +kernel, by decide +kernel⟩ (ve_var 2) ⟨rfl, rfl, rfl, rfl, rfl⟩ rfl))))
    (vb_one (vs_retO 1))))
abbrev st_way : Stmt := topS 56
theorem sc_way : FnScope ["room", "body", "start", "goal", "price", "found"] ["room", "body", "start", "goal", "price"] (defScope st_way) := ⟨rfl, rfl, rfl, by decide +kernel, rfl, by decide +kernel, by decide +kernel⟩
theorem okx_way (T : Fc K mg) : FnOk P w K mg base (L2.CX P w) 7 T.f_way T.fd_way ["room", "body", "start", "goal", "price"] (spX ⟨P, w, K⟩ mg 5 gx_way) :=
  fn_X (k := 6) T.F_way sc_way (fun cdv A outer s H E hr tk po => vbx_cons (vsx_expr (vex_fn (okx_look_all T) (hr.mono (by decide)) (by rfl) T.m_look_all T.F_look_all.kp T.b_look_all tk (va_cons (ve_var 0) (va_cons (ve_var 1) (va_nil)))))
    (vbx_cons (vsx_expr (vex_fn (okx_look_free T) (hr.mono (by decide)) (by rfl) T.m_look_free T.F_look_free.kp T.b_look_free tk (va_cons (ve_var 0) (va_cons (ve_var 1) (va_cons (ve_var 2) (va_nil))))))
    (vbx_cons (vsx_expr (vex_fn (okx_look_free T) (hr.mono (by decide)) (by rfl) T.m_look_free T.F_look_free.kp T.b_look_free tk (va_cons (ve_var 0) (va_cons (ve_var 1) (va_cons (ve_var 3) (va_nil))))))
    (vbx_cons (vsx_expr (vex_fn (okx_look_number T) (hr.mono (by decide)) (by rfl) T.m_look_number T.F_look_number.kp T.b_look_number tk (va_cons (ve_var 4) (va_cons (ve_int) (va_cons (ve_gint (by rfl) T.c_MOST_PRICE) (va_nil))))))
    (vbx_of (vb_cons (vs_set (i := 5) (ve_fn (ok_sought T) (hr.mono (by decide)) (by rfl) T.m_sought T.F_sought.kp T.b_sought (va_cons (ve_var 0) (va_cons (ve_var 1) (va_cons (ve_var 2) (va_cons (ve_var 3) (va_cons (ve_var 4) (va_nil))))))) sc_way.nd)
    (vb_one (vs_ret (ve_if (vt_is (ve_var 5) (ve_non)) (ve_non) (ve_tup (va_cons (ve_ix (ve_var 5) (ve_int)) (va_cons (ve_fn (ok_shortened T) (hr.mono (by decide)) (by rfl) T.m_shortened T.F_shortened.kp T.b_shortened (va_cons (ve_ix (ve_var 5) (ve_int)) (va_nil))) (va_nil)))))))))))))
abbrev st_is_free : Stmt := topS 35
theorem sc_is_free : FnScope ["room", "body", "standing"] ["room", "body", "standing"] (defScope st_is_free) := ⟨rfl, rfl, rfl, by decide +kernel, rfl, by decide +kernel, by decide +kernel⟩
theorem okx_is_free (T : Fc K mg) : FnOk P w K mg base (L2.CX P w) 6 T.f_is_free T.fd_is_free ["room", "body", "standing"] (spX ⟨P, w, K⟩ mg 3 gx_is_free) :=
  fn_X (k := 5) T.F_is_free sc_is_free (fun cdv A outer s H E hr tk po => vbx_cons (vsx_expr (vex_fn (okx_look_all T) (hr.mono (by decide)) (by rfl) T.m_look_all T.F_look_all.kp T.b_look_all tk (va_cons (ve_var 0) (va_cons (ve_var 1) (va_nil)))))
    (vbx_cons (vsx_expr (vex_fn (okx_look_standing T) (hr.mono (by decide)) (by rfl) T.m_look_standing T.F_look_standing.kp T.b_look_standing tk (va_cons (ve_var 2) (va_nil))))
    (vbx_of (vb_one (vs_ret (ve_fn (ok_stands T) (hr.mono (by decide)) (by rfl) T.m_stands T.F_stands.kp T.b_stands (va_cons (ve_var 0) (va_cons (ve_var 1) (va_cons (ve_var 2) (va_nil))))))))))
abbrev st__law_does : Stmt := topS 72
theorem sc__law_does : FnScope ["sort_of", "room", "body", "one"] ["sort_of", "room", "body", "one"] (defScope st__law_does) := ⟨rfl, rfl, rfl, by decide +kernel, rfl, by decide +kernel, by decide +kernel⟩
theorem okx__law_does (T : Fc K mg) : FnOk P w K mg base (L2.CX P w) 10 T.f__law_does T.fd__law_does ["sort_of", "room", "body", "one"] (spX ⟨P, w, K⟩ mg 4 gx__law_does) :=
  fn_X (k := 9) T.F__law_does sc__law_does (fun cdv A outer s H E hr tk po => vbx_cons (vsx_if (vt_eq (u64 hr) (ve_var 0) (ve_int))
    (vbx_one (vsx_ret (vex_fnD (n := 3) (ms := [0, 0]) (okx_may_slide T) (hr.mono (by decide)) (by rfl) T.m_may_slide T.F_may_slide.kp T.b_may_slide__ tk (va_cons (ve_var 1) (va_cons (ve_var 2) (va_cons (ve_var 3) (va_nil)))) rfl)))
    (vbx_of vb_nil))
    (vbx_cons (vsx_if (vt_eq (u64 hr) (ve_var 0) (ve_int))
    (vbx_one (vsx_ret (vex_fn (okx_may_turn T) (hr.mono (by decide)) (by rfl) T.m_may_turn T.F_may_turn.kp T.b_may_turn tk (va_cons (ve_var 1) (va_cons (ve_var 2) (va_cons (ve_var 3) (va_nil)))))))
    (vbx_of vb_nil))
    (vbx_cons (vsx_if (vt_eq (u64 hr) (ve_var 0) (ve_int))
    (vbx_one (vsx_ret (vex_fnN (okx_farthest_slide T) (hr.mono (by decide)) (by rfl) T.m_farthest_slide T.F_farthest_slide.kp T.b_farthest_slide__x tk (va_cons (ve_var 1) (va_cons (ve_var 2) (va_cons (ve_var 3) (va_nil)))) (vk_cons (ve_int) (vk_nil)) rfl)))
    (vbx_of vb_nil))
    (vbx_cons (vsx_if (vt_eq (u64 hr) (ve_var 0) (ve_int))
    (vbx_one (vsx_ret (vex_fn (okx_clearance T) (hr.mono (by decide)) (by rfl) T.m_clearance T.F_clearance.kp T.b_clearance tk (va_cons (ve_var 1) (va_cons (ve_var 2) (va_cons (ve_var 3) (va_nil)))))))
    (vbx_of vb_nil))
    (vbx_cons (vsx_if (vt_eq (u64 hr) (ve_var 0) (ve_int))
    (vbx_one (vsx_ret (vex_fn (okx_reach T) (hr.mono (by decide)) (by rfl) T.m_reach T.F_reach.kp T.b_reach tk (va_cons (ve_var 1) (va_cons (ve_var 2) (va_cons (ve_var 3) (va_nil)))))))
    (vbx_of vb_nil))
    (vbx_one (vsx_ret (vex_if (vt_eq (u64 hr) (ve_var 0) (ve_int)) (vex_fn (okx_part_of T) (hr.mono (by decide)) (by rfl) T.m_part_of T.F_part_of.kp T.b_part_of tk (va_cons (ve_var 1) (va_cons (ve_var 2) (va_cons (ve_var 3) (va_nil))))) (vex_if (vt_eq (u64 hr) (ve_var 0) (ve_int)) (vex_fnD (n := 4) (ms := [1]) (okx_way T) (hr.mono (by decide)) (by rfl) T.m_way T.F_way.kp T.b_way__ tk (va_cons (ve_var 1) (va_cons (ve_var 2) (va_cons (ve_var 3) (va_cons (ve_var 3) (va_nil))))) rfl) (vex_fn (okx_is_free T) (hr.mono (by decide)) (by rfl) T.m_is_free T.F_is_free.kp T.b_is_free tk (va_cons (ve_var 1) (va_cons (ve_var 2) (va_cons (ve_var 3) (va_nil))))))))))))))
abbrev st__law_asked : Stmt := topS 73
theorem sc__law_asked : FnScope ["sort_of", "room", "body", "one", "caught", "bears", "e"] ["sort_of", "room", "body", "one"] (defScope st__law_asked) := ⟨rfl, rfl, rfl, by decide +kernel, rfl, by decide +kernel, by decide +kernel⟩
theorem ok__law_asked (T : Fc K mg) : FnOk P w K mg base CX0 11 T.f__law_asked T.fd__law_asked ["sort_of", "room", "body", "one"] (spV ⟨P, w, K⟩ 4 g__law_asked) :=
  fn_V (k := 10) T.F__law_asked sc__law_asked (fun cdv A outer s H E hr => vb_cons (vs_set (i := 4) (ve_non) sc__law_asked.nd)
    (vb_cons (vs_set (i := 5) (ve_non) sc__law_asked.nd)
    (by refine vb_try2 (i := 6) (j := 4) (b := 5) rfl rfl rfl sc__law_asked.nd rfl rfl rfl (by decide) (by decide) (by decide) rfl (by first | exact Or.inl rfl | exact Or.inr rfl) (by first | exact Or.inl rfl | exact Or.inr rfl) (by first | exact Or.inl rfl | exact Or.inr (Or.inl rfl) | exact Or.inr (Or.inr rfl)) (by first | exact Or.inl rfl | exact Or.inr (Or.inl rfl) | exact Or.inr (Or.inr rfl)) (by first | exact Or.inl rfl | exact Or.inr (Or.inl rfl) | exact Or.inr (Or.inr rfl)) (by decide +kernel) (by decide +kernel) (by decide +kernel) (by decide +kernel) (by decide +kernel) (by decide +kernel) (by first | exact Or.inl rfl | exact Or.inr rfl) (by first | exact Or.inl rfl | exact Or.inr rfl) (by exact ⟨rfl, by decide +kernel, .inl T.C_NotFree.g⟩) (by exact ⟨rfl, by decide +kernel, .inl T.C_WayError.g⟩) T.C_NotFree.g ⟨T.E_NotFree.hg, T.E_NotFree.hk, T.E_NotFree.hs, T.E_NotFree.hd⟩ T.Y_NotFree.f T.n_NotFree (gR_nf T) (gR_exm T) ?_ (ok__law_refusal T) (hr.mono (by decide)) (by rfl) T.m__law_refusal T.F__law_refusal.kp T.b__law_refusal (by decide +kernel) (fun _ _ _ => rfl) (fun _ _ _ => rfl) (fun _ _ _ => rfl) (fun _ _ _ => rfl) (fun _ _ _ => rfl) (fun _ _ _ => rfl) rfl rfl rfl; exact (fun W pn xe tk po => vbx_one (vsx_expr (vex_fn (okx__law_does T) (hr.mono (by decide)) (by rfl) T.m__law_does T.F__law_does.kp T.b__law_does tk (va_cons (ve_var 0) (va_cons (ve_var 1) (va_cons (ve_var 2) (va_cons (ve_var 3) (va_nil)))))))))))
abbrev st_law : Stmt := topS 75
theorem sc_law : FnScope ["script", "town", "odd", "bad", "one", "room", "body", "px", "py", "k"] ["script"] (defScope st_law) := ⟨rfl, rfl, rfl, by decide +kernel, rfl, by decide +kernel, by decide +kernel⟩
theorem ok_law' (T : Fc K mg) (ok : ∀ ns : List Int, ns.length ≤ 63 → isTrueOut (B_law (stLaw 10 ns)) = true) : FnOk P w K mg base CX0 12 T.f_law T.fd_law ["script"] (spLaw K) :=
  ok_law (N := ["odd", "bad", "one", "room", "body", "px", "py", "k"]) (k := 10) T.F_law sc_law (ok__law_town T) T.m__law_town T.F__law_town.kp T.b__law_town rfl rfl rfl (by first | exact Or.inl rfl | exact Or.inr rfl) (fun cdv A outer s H E hr => vb_cons (vs_asg (ve_tup (va_cons (ve_tup (va_cons (ve_int) (va_cons (ve_int) (va_cons (ve_tup (va_cons (ve_tup (va_cons (ve_int) (va_cons (ve_int) (va_cons (ve_int) (va_cons (ve_int) (va_nil)))))) (va_nil))) (va_nil))))) (va_cons (ve_tup (va_cons (ve_tup (va_cons (ve_int) (va_cons (ve_int) (va_cons (ve_int) (va_cons (ve_int) (va_nil)))))) (va_nil))) (va_nil)))) (vg_tup rfl (vgs_cons (vg_name 5 sc_law.nd) (vgs_cons (vg_name 6 sc_law.nd) (vgs_nil)))))
    (vb_cons (vs_set (i := 2) ((vf_lst (va_cons (ve_non) (va_cons (ve_int) (va_cons (ve_tup (va_cons (ve_int) (va_cons (ve_int) (va_cons (ve_tup (va_nil)) (va_nil))))) (va_cons (ve_tup (va_cons (ve_int) (va_cons (ve_int) (va_cons (ve_tup (va_nil)) (va_nil))))) (va_cons (ve_tup (va_cons (ve_int) (va_cons (ve_int) (va_nil)))) (va_cons ((vf_lst (va_cons (ve_int) (va_cons (ve_int) (va_cons (ve_tup (va_nil)) (va_nil))))).ve) (va_cons (ve_tup (va_cons (ve_int) (va_cons (ve_int) (va_cons ((vf_lst (va_nil)).ve) (va_nil))))) (va_cons (ve_tup (va_cons (ve_int) (va_cons (ve_int) (va_cons (ve_tup (va_cons (ve_tup (va_cons (ve_int) (va_cons (ve_int) (va_cons (ve_int) (va_cons (ve_int) (va_nil)))))) (va_nil))) (va_nil))))) (va_cons (ve_tup (va_cons (ve_int) (va_cons (ve_int) (va_cons (ve_tup (va_cons (ve_tup (va_cons (ve_int) (va_cons (ve_int) (va_cons (ve_int) (va_cons (ve_int) (va_nil)))))) (va_nil))) (va_nil))))) (va_nil))))))))))).ve) sc_law.nd)
    (vb_cons (vs_set (i := 2) ((vf_cat (ve_var 2) ((vf_lst (va_cons (ve_tup (va_cons (ve_int) (va_cons (ve_int) (va_cons (ve_tup (va_cons (ve_tup (va_cons (ve_int) (va_cons (ve_int) (va_cons (ve_int) (va_nil))))) (va_nil))) (va_nil))))) (va_cons (ve_tup (va_cons (ve_bl) (va_cons (ve_int) (va_cons (ve_tup (va_nil)) (va_nil))))) (va_cons (ve_tup (va_cons (ve_int) (va_cons (ve_int) (va_cons (ve_repT (ve_tup (va_cons (ve_tup (va_cons (ve_int) (va_cons (ve_int) (va_cons (ve_int) (va_cons (ve_int) (va_nil)))))) (va_nil))) (ve_int)) (va_nil))))) (va_cons (ve_tup (va_cons (ve_int) (va_cons (ve_int) (va_cons (ve_tup (va_cons (ve_tup (va_cons (ve_sub (ve_int) (ve_int)) (va_cons (ve_int) (va_cons (ve_int) (va_cons (ve_int) (va_nil)))))) (va_nil))) (va_nil))))) (va_cons (ve_tup (va_cons (ve_int) (va_cons (ve_int) (va_cons (ve_tup (va_cons (ve_non) (va_nil))) (va_nil))))) (va_nil))))))).ve)).ve) sc_law.nd)
    (vb_cons (vs_for PassesOwn.never rfl (vi_seq (ve_var 2)) (vg_name 3 sc_law.nd)
    (vb_one (vs_if ((vw_or (vt_ne (u64 hr) ((vf_comp rfl sc_law.nd (own := [("k", 9)]) (blkOk_by (N := ["script", "town", "odd", "bad", "one", "room", "body", "px", "py", "k"]) (sc := defScope st_law) (by decide +kernel)) (vi_range1 (by rfl) T.z_range (va_cons (ve_int) (va_nil))) (fun b => ⟨vge_name 9 sc_law.nd, vts_nil, vp_emit rfl (ve_fn (ok__law_asked T) (hr.mono (by decide)) (by rfl) T.m__law_asked T.F__law_asked.kp T.b__law_asked (va_cons (ve_var 9) (va_cons (ve_var 3) (va_cons (ve_non) (va_cons (ve_non) (va_nil))))))⟩)).ve) ((vf_rep ((vf_lst (va_cons (ve_str) (va_nil))).ve) (ve_int)).ve)) (vw_or1 (vt_isnt (ve_fn (ok_is_room T) (hr.mono (by decide)) (by rfl) T.m_is_room T.F_is_room.kp T.b_is_room (va_cons (ve_var 3) (va_nil))) (ve_bl)))).vt)
    (vb_one (vs_ret (ve_bl)))
    (vb_nil))))
    (vb_cons (vs_set (i := 2) ((vf_lst (va_cons (ve_non) (va_cons (ve_int) (va_cons (ve_tup (va_nil)) (va_cons (ve_tup (va_cons (ve_tup (va_cons (ve_int) (va_cons (ve_int) (va_cons (ve_int) (va_cons (ve_int) (va_nil)))))) (va_nil))) (va_cons ((vf_lst (va_cons (ve_tup (va_cons (ve_int) (va_cons (ve_int) (va_cons (ve_int) (va_cons (ve_int) (va_nil)))))) (va_nil))).ve) (va_cons (ve_tup (va_cons (ve_tup (va_cons (ve_int) (va_cons (ve_int) (va_cons (ve_int) (va_cons (ve_int) (va_nil)))))) (va_nil))) (va_cons (ve_tup (va_cons (ve_tup (va_cons (ve_sub (ve_int) (ve_int)) (va_cons (ve_int) (va_cons (ve_int) (va_cons (ve_int) (va_nil)))))) (va_nil))) (va_cons (ve_repT (ve_tup (va_cons (ve_tup (va_cons (ve_int) (va_cons (ve_int) (va_cons (ve_int) (va_cons (ve_int) (va_nil)))))) (va_nil))) (ve_int)) (va_cons (ve_tup (va_cons (ve_tup (va_cons (ve_int) (va_cons (ve_int) (va_cons (ve_int) (va_cons (ve_bl) (va_nil)))))) (va_nil))) (va_nil))))))))))).ve) sc_law.nd)
    (vb_cons (vs_for PassesOwn.never rfl (vi_seq (ve_var 2)) (vg_name 3 sc_law.nd)
    (vb_one (vs_if ((vw_or (vt_ne (u64 hr) ((vf_comp rfl sc_law.nd (own := [("k", 9)]) (blkOk_by (N := ["script", "town", "odd", "bad", "one", "room", "body", "px", "py", "k"]) (sc := defScope st_law) (by decide +kernel)) (vi_range1 (by rfl) T.z_range (va_cons (ve_int) (va_nil))) (fun b => ⟨vge_name 9 sc_law.nd, vts_nil, vp_emit rfl (ve_fn (ok__law_asked T) (hr.mono (by decide)) (by rfl) T.m__law_asked T.F__law_asked.kp T.b__law_asked (va_cons (ve_var 9) (va_cons (ve_var 5) (va_cons (ve_var 3) (va_cons (ve_non) (va_nil))))))⟩)).ve) ((vf_rep ((vf_lst (va_cons (ve_str) (va_nil))).ve) (ve_int)).ve)) (vw_or1 (vt_isnt (ve_fn (ok_is_body T) (hr.mono (by decide)) (by rfl) T.m_is_body T.F_is_body.kp T.b_is_body (va_cons (ve_var 3) (va_nil))) (ve_bl)))).vt)
    (vb_one (vs_ret (ve_bl)))
    (vb_nil))))
    (vb_cons (vs_for PassesOwn.never rfl (vi_seq ((vf_lst (va_cons (ve_non) (va_cons (ve_int) (va_cons (ve_tup (va_cons (ve_int) (va_cons (ve_int) (va_nil)))) (va_cons (ve_tup (va_cons (ve_int) (va_cons (ve_int) (va_cons (ve_int) (va_nil))))) (va_cons ((vf_lst (va_cons (ve_int) (va_cons (ve_int) (va_cons (ve_int) (va_nil))))).ve) (va_cons (ve_tup (va_cons (ve_bl) (va_cons (ve_int) (va_cons (ve_int) (va_nil))))) (va_cons (ve_tup (va_cons (ve_int) (va_cons (ve_int) (va_cons (ve_int) (va_nil))))) (va_cons (ve_tup (va_cons (ve_int) (va_cons (ve_sub (ve_int) (ve_int)) (va_cons (ve_int) (va_nil))))) (va_cons (ve_tup (va_cons (ve_int) (va_cons (ve_int) (va_cons (ve_non) (va_nil))))) (va_nil))))))))))).ve)) (vg_name 3 sc_law.nd)
    (vb_one (vs_if ((vw_or (vt_ne (u64 hr) ((vf_comp rfl sc_law.nd (own := [("k", 9)]) (blkOk_by (N := ["script", "town", "odd", "bad", "one", "room", "body", "px", "py", "k"]) (sc := defScope st_law) (by decide +kernel)) (vi_range1 (by rfl) T.z_range (va_cons (ve_int) (va_nil))) (fun b => ⟨vge_name 9 sc_law.nd, vts_nil, vp_emit rfl (ve_fn (ok__law_asked T) (hr.mono (by decide)) (by rfl) T.m__law_asked T.F__law_asked.kp T.b__law_asked (va_cons (ve_var 9) (va_cons (ve_var 5) (va_cons (ve_var 6) (va_cons (ve_var 3) (va_nil))))))⟩)).ve) ((vf_rep ((vf_lst (va_cons (ve_str) (va_nil))).ve) (ve_int)).ve)) (vw_or1 (vt_isnt (ve_fn (ok_is_standing T) (hr.mono (by decide)) (by rfl) T.m_is_standing T.F_is_standing.kp T.b_is_standing (va_cons (ve_var 3) (va_nil))) (ve_bl)))).vt)
    (vb_one (vs_ret (ve_bl)))
    (vb_nil))))
    (vb_cons (vs_for PassesOwn.never rfl (vi_seq ((vf_lst (va_cons (ve_tup (va_cons (ve_int) (va_cons (ve_int) (va_cons (ve_int) (va_nil))))) (va_cons (ve_tup (va_cons (ve_int) (va_cons (ve_int) (va_cons (ve_int) (va_nil))))) (va_cons (ve_tup (va_cons (ve_int) (va_cons (ve_int) (va_cons (ve_int) (va_nil))))) (va_cons (ve_tup (va_cons (ve_int) (va_cons (ve_sub (ve_int) (ve_int)) (va_cons (ve_int) (va_nil))))) (va_cons (ve_tup (va_cons (ve_int) (va_cons (ve_int) (va_cons (ve_int) (va_nil))))) (va_cons (ve_tup (va_cons (ve_int) (va_cons (ve_int) (va_cons (ve_int) (va_nil))))) (va_cons (ve_tup (va_cons (ve_int) (va_cons (ve_int) (va_cons (ve_int) (va_nil))))) (va_nil))))))))).ve)) (vg_name 3 sc_law.nd)
    (vb_one (vs_if (vt_ne (u64 hr) ((vf_comp rfl sc_law.nd (own := [("k", 9)]) (blkOk_by (N := ["script", "town", "odd", "bad", "one", "room", "body", "px", "py", "k"]) (sc := defScope st_law) (by decide +kernel)) (vi_range1 (by rfl) T.z_range (va_cons (ve_int) (va_nil))) (fun b => ⟨vge_name 9 sc_law.nd, vts_nil, vp_emit rfl (ve_fn (ok__law_asked T) (hr.mono (by decide)) (by rfl) T.m__law_asked T.F__law_asked.kp T.b__law_asked (va_cons (ve_var 9) (va_cons (ve_var 5) (va_cons (ve_var 6) (va_cons (ve_var 3) (va_nil))))))⟩)).ve) ((vf_rep ((vf_lst (va_cons (ve_tup (va_cons (ve_str) (va_cons (ve_var 3) (va_nil)))) (va_nil))).ve) (ve_int)).ve))
    (vb_one (vs_ret (ve_bl)))
    (vb_nil))))
    (vb_cons (vs_set (i := 4) (ve_tup (va_cons (ve_fnT 1 (ok__law_draw T) (hr.mono (by decide)) (by rfl) T.m__law_draw T.F__law_draw.kp T.b__law_draw ⟨rfl, by first | exact Or.inl rfl | exact Or.inr (Or.inl rfl) | exact Or.inr (Or.inr rfl), by decide +kernel, by decide +kernel⟩ (va_cons (ve_int) (va_nil))) (va_cons (ve_fnT 1 (ok__law_draw T) (hr.mono (by decide)) (by rfl) T.m__law_draw T.F__law_draw.kp T.b__law_draw ⟨rfl, by first | exact Or.inl rfl | exact Or.inr (Or.inl rfl) | exact Or.inr (Or.inr rfl), by decide +kernel, by decide +kernel⟩ (va_cons (ve_int) (va_nil))) (va_cons (ve_int) (va_nil))))) sc_law.nd)
    (vb_cons (vs_for PassesOwn.never rfl (vi_seq ((vf_lst (va_cons (ve_tup (va_cons (ve_int) (va_cons (ve_int) (va_nil)))) (va_cons (ve_tup (va_cons (ve_non) (va_cons (ve_int) (va_nil)))) (va_cons (ve_tup (va_cons (ve_int) (va_cons (ve_bl) (va_nil)))) (va_cons (ve_tup (va_cons (ve_int) (va_cons (ve_int) (va_nil)))) (va_cons (ve_tup (va_cons (ve_str) (va_cons (ve_int) (va_nil)))) (va_cons (ve_tup (va_cons (ve_int) (va_cons (ve_sub (ve_int) (ve_int)) (va_nil)))) (va_nil)))))))).ve)) (vg_tup rfl (vgs_cons (vg_name 7 sc_law.nd) (vgs_cons (vg_name 8 sc_law.nd) (vgs_nil))))
    (vb_one (vs_if ((vw_or (vt_ne (u64 hr) (ve_fn (ok__law_slide T) (hr.mono (by decide)) (by rfl) T.m__law_slide T.F__law_slide.kp T.b__law_slide (va_cons (ve_var 4) (va_cons (ve_var 7) (va_cons (ve_var 8) (va_cons (ve_bl) (va_nil)))))) (ve_str)) (vw_or1 (vt_ne (u64 hr) (ve_fn (ok__law_slide T) (hr.mono (by decide)) (by rfl) T.m__law_slide T.F__law_slide.kp T.b__law_slide (va_cons (ve_var 4) (va_cons (ve_var 7) (va_cons (ve_var 8) (va_cons (ve_bl) (va_nil)))))) (ve_str)))).vt)
    (vb_one (vs_ret (ve_bl)))
    (vb_nil))))
    (vb_cons (vs_if (vt_ne (u64 hr) ((vf_comp rfl sc_law.nd (own := [("px", 7), ("py", 8)]) (blkOk_by (N := ["script", "town", "odd", "bad", "one", "room", "body", "px", "py", "k"]) (sc := defScope st_law) (by decide +kernel)) (vi_seq ((vf_lst (va_cons (ve_tup (va_cons (ve_int) (va_cons (ve_int) (va_nil)))) (va_cons (ve_tup (va_cons (ve_int) (va_cons (ve_int) (va_nil)))) (va_cons (ve_tup (va_cons (ve_int) (va_cons (ve_sub (ve_int) (ve_int)) (va_nil)))) (va_cons (ve_tup (va_cons (ve_bl) (va_cons (ve_int) (va_nil)))) (va_nil)))))).ve)) (fun b => ⟨vge_tup rfl (vges_cons (vge_name 7 sc_law.nd) (vges_cons (vge_name 8 sc_law.nd) (vges_nil))), vts_nil, vp_emit rfl (ve_fn (ok__law_slide T) (hr.mono (by decide)) (by rfl) T.m__law_slide T.F__law_slide.kp T.b__law_slide (va_cons (ve_var 4) (va_cons (ve_var 7) (va_cons (ve_var 8) (va_cons (ve_bl) (va_nil))))))⟩)).ve) ((vf_rep ((vf_lst (va_cons (ve_str) (va_nil))).ve) (ve_int)).ve))
    (vb_one (vs_ret (ve_bl)))
    (vb_nil))
    (vb_one (vs_ret (ve_and (ve_eq (u64 hr) (ve_fn (ok__law_slide T) (hr.mono (by decide)) (by rfl) T.m__law_slide T.F__law_slide.kp T.b__law_slide (va_cons (ve_var 4) (va_cons (ve_int) (va_cons (ve_int) (va_cons (ve_bl) (va_nil)))))) (ve_str)) (ve_one (ve_eq (u64 hr) (ve_fn (ok__law_asked T) (hr.mono (by decide)) (by rfl) T.m__law_asked T.F__law_asked.kp T.b__law_asked (va_cons (ve_int) (va_cons (ve_var 5) (va_cons (ve_var 6) (va_cons (ve_tup (va_cons (ve_int) (va_cons (ve_sub (ve_int) (ve_int)) (va_cons (ve_int) (va_nil))))) (va_nil)))))) (ve_str))))))))))))))))) ok
end
theorem all_mk {l : PySem.W.OpenLaw} {w : World} {K : PySem.W.Frag} {h : Heap} {mg : Str → Option Value} {fa : Addr} (X : K.In h) (G : h.Ns mainGlobals mg) (hfa : mg "law" = some (.ref fa)) (ok : ∀ ns : List Int, ns.length ≤ 63 → isTrueOut (B_law (stLaw 10 ns)) = true)
    {f0 : Addr} {od0 an0 : Option Addr} {sl0 : Array (Option Value)} {oc0 kV0 dc0 pm0 cd0 ct0 : Value}
    (a0 : PySem.W.nsIn K mainGlobals "_law_town" = some (some (.ref f0))) (l0 : K.lookup f0 = some ⟨oc0, od0, .func (PySem.W.fnOf "_law_town" "_law_town" (defArgs (topS 69)) (defBody (topS 69)) (defScope (topS 69)) .none kV0 dc0 pm0 an0 cd0 ct0), sl0⟩) (c0 : PySem.W.codeIn K cd0 "_law_town" = true) (k0 : PySem.W.keepIn K (.ref f0) = true)
    {f1 : Addr} {od1 an1 : Option Addr} {sl1 : Array (Option Value)} {oc1 kV1 dc1 pm1 cd1 ct1 : Value}
    (a1 : PySem.W.nsIn K mainGlobals "_law_draw" = some (some (.ref f1))) (l1 : K.lookup f1 = some ⟨oc1, od1, .func (PySem.W.fnOf "_law_draw" "_law_draw" (defArgs (topS 70)) (defBody (topS 70)) (defScope (topS 70)) .none kV1 dc1 pm1 an1 cd1 ct1), sl1⟩) (c1 : PySem.W.codeIn K cd1 "_law_draw" = true) (k1 : PySem.W.keepIn K (.ref f1) = true)
    {f2 : Addr} {od2 an2 : Option Addr} {sl2 : Array (Option Value)} {oc2 kV2 dc2 pm2 cd2 ct2 : Value}
    (a2 : PySem.W.nsIn K mainGlobals "_law_refusal" = some (some (.ref f2))) (l2 : K.lookup f2 = some ⟨oc2, od2, .func (PySem.W.fnOf "_law_refusal" "_law_refusal" (defArgs (topS 71)) (defBody (topS 71)) (defScope (topS 71)) .none kV2 dc2 pm2 an2 cd2 ct2), sl2⟩) (c2 : PySem.W.codeIn K cd2 "_law_refusal" = true) (k2 : PySem.W.keepIn K (.ref f2) = true)
    {f3 : Addr} {od3 an3 : Option Addr} {sl3 : Array (Option Value)} {oc3 kV3 dc3 pm3 cd3 ct3 : Value}
    (a3 : PySem.W.nsIn K mainGlobals "is_whole" = some (some (.ref f3))) (l3 : K.lookup f3 = some ⟨oc3, od3, .func (PySem.W.fnOf "is_whole" "is_whole" (defArgs (topS 10)) (defBody (topS 10)) (defScope (topS 10)) .none kV3 dc3 pm3 an3 cd3 ct3), sl3⟩) (c3 : PySem.W.codeIn K cd3 "is_whole" = true) (k3 : PySem.W.keepIn K (.ref f3) = true)
    {f4 : Addr} {od4 an4 : Option Addr} {sl4 : Array (Option Value)} {oc4 kV4 dc4 pm4 cd4 ct4 : Value}
    (a4 : PySem.W.nsIn K mainGlobals "is_rect" = some (some (.ref f4))) (l4 : K.lookup f4 = some ⟨oc4, od4, .func (PySem.W.fnOf "is_rect" "is_rect" (defArgs (topS 15)) (defBody (topS 15)) (defScope (topS 15)) .none kV4 dc4 pm4 an4 cd4 ct4), sl4⟩) (c4 : PySem.W.codeIn K cd4 "is_rect" = true) (k4 : PySem.W.keepIn K (.ref f4) = true)
    {f5 : Addr} {od5 an5 : Option Addr} {sl5 : Array (Option Value)} {oc5 kV5 dc5 pm5 cd5 ct5 : Value}
    (a5 : PySem.W.nsIn K mainGlobals "is_room" = some (some (.ref f5))) (l5 : K.lookup f5 = some ⟨oc5, od5, .func (PySem.W.fnOf "is_room" "is_room" (defArgs (topS 16)) (defBody (topS 16)) (defScope (topS 16)) .none kV5 dc5 pm5 an5 cd5 ct5), sl5⟩) (c5 : PySem.W.codeIn K cd5 "is_room" = true) (k5 : PySem.W.keepIn K (.ref f5) = true)
    {f6 : Addr} {od6 an6 : Option Addr} {sl6 : Array (Option Value)} {oc6 kV6 dc6 pm6 cd6 ct6 : Value}
    (a6 : PySem.W.nsIn K mainGlobals "look_room" = some (some (.ref f6))) (l6 : K.lookup f6 = some ⟨oc6, od6, .func (PySem.W.fnOf "look_room" "look_room" (defArgs (topS 17)) (defBody (topS 17)) (defScope (topS 17)) .none kV6 dc6 pm6 an6 cd6 ct6), sl6⟩) (c6 : PySem.W.codeIn K cd6 "look_room" = true) (k6 : PySem.W.keepIn K (.ref f6) = true)
    {f7 : Addr} {od7 an7 : Option Addr} {sl7 : Array (Option Value)} {oc7 kV7 dc7 pm7 cd7 ct7 : Value}
    (a7 : PySem.W.nsIn K mainGlobals "is_body" = some (some (.ref f7))) (l7 : K.lookup f7 = some ⟨oc7, od7, .func (PySem.W.fnOf "is_body" "is_body" (defArgs (topS 23)) (defBody (topS 23)) (defScope (topS 23)) .none kV7 dc7 pm7 an7 cd7 ct7), sl7⟩) (c7 : PySem.W.codeIn K cd7 "is_body" = true) (k7 : PySem.W.keepIn K (.ref f7) = true)
    {f8 : Addr} {od8 an8 : Option Addr} {sl8 : Array (Option Value)} {oc8 kV8 dc8 pm8 cd8 ct8 : Value}
    (a8 : PySem.W.nsIn K mainGlobals "look_body" = some (some (.ref f8))) (l8 : K.lookup f8 = some ⟨oc8, od8, .func (PySem.W.fnOf "look_body" "look_body" (defArgs (topS 24)) (defBody (topS 24)) (defScope (topS 24)) .none kV8 dc8 pm8 an8 cd8 ct8), sl8⟩) (c8 : PySem.W.codeIn K cd8 "look_body" = true) (k8 : PySem.W.keepIn K (.ref f8) = true)
    {f9 : Addr} {od9 an9 : Option Addr} {sl9 : Array (Option Value)} {oc9 kV9 dc9 pm9 cd9 ct9 : Value}
    (a9 : PySem.W.nsIn K mainGlobals "look_all" = some (some (.ref f9))) (l9 : K.lookup f9 = some ⟨oc9, od9, .func (PySem.W.fnOf "look_all" "look_all" (defArgs (topS 32)) (defBody (topS 32)) (defScope (topS 32)) .none kV9 dc9 pm9 an9 cd9 ct9), sl9⟩) (c9 : PySem.W.codeIn K cd9 "look_all" = true) (k9 : PySem.W.keepIn K (.ref f9) = true)
    {f10 : Addr} {od10 an10 : Option Addr} {sl10 : Array (Option Value)} {oc10 kV10 dc10 pm10 cd10 ct10 : Value}
    (a10 : PySem.W.nsIn K mainGlobals "is_standing" = some (some (.ref f10))) (l10 : K.lookup f10 = some ⟨oc10, od10, .func (PySem.W.fnOf "is_standing" "is_standing" (defArgs (topS 30)) (defBody (topS 30)) (defScope (topS 30)) .none kV10 dc10 pm10 an10 cd10 ct10), sl10⟩) (c10 : PySem.W.codeIn K cd10 "is_standing" = true) (k10 : PySem.W.keepIn K (.ref f10) = true)
    {f11 : Addr} {od11 an11 : Option Addr} {sl11 : Array (Option Value)} {oc11 kV11 dc11 pm11 cd11 ct11 : Value}
    (a11 : PySem.W.nsIn K mainGlobals "look_standing" = some (some (.ref f11))) (l11 : K.lookup f11 = some ⟨oc11, od11, .func (PySem.W.fnOf "look_standing" "look_standing" (defArgs (topS 31)) (defBody (topS 31)) (defScope (topS 31)) .none kV11 dc11 pm11 an11 cd11 ct11), sl11⟩) (c11 : PySem.W.codeIn K cd11 "look_standing" = true) (k11 : PySem.W.keepIn K (.ref f11) = true)
    {f12 : Addr} {od12 an12 : Option Addr} {sl12 : Array (Option Value)} {oc12 kV12 dc12 pm12 cd12 ct12 : Value}
    (a12 : PySem.W.nsIn K mainGlobals "overlap" = some (some (.ref f12))) (l12 : K.lookup f12 = some ⟨oc12, od12, .func (PySem.W.fnOf "overlap" "overlap" (defArgs (topS 18)) (defBody (topS 18)) (defScope (topS 18)) .none kV12 dc12 pm12 an12 cd12 ct12), sl12⟩) (c12 : PySem.W.codeIn K cd12 "overlap" = true) (k12 : PySem.W.keepIn K (.ref f12) = true)
    {f13 : Addr} {od13 an13 : Option Addr} {sl13 : Array (Option Value)} {oc13 kV13 dc13 pm13 cd13 ct13 : Value}
    (a13 : PySem.W.nsIn K mainGlobals "fits" = some (some (.ref f13))) (l13 : K.lookup f13 = some ⟨oc13, od13, .func (PySem.W.fnOf "fits" "fits" (defArgs (topS 19)) (defBody (topS 19)) (defScope (topS 19)) .none kV13 dc13 pm13 an13 cd13 ct13), sl13⟩) (c13 : PySem.W.codeIn K cd13 "fits" = true) (k13 : PySem.W.keepIn K (.ref f13) = true)
    {f14 : Addr} {od14 an14 : Option Addr} {sl14 : Array (Option Value)} {oc14 kV14 dc14 pm14 cd14 ct14 : Value}
    (a14 : PySem.W.nsIn K mainGlobals "quarter" = some (some (.ref f14))) (l14 : K.lookup f14 = some ⟨oc14, od14, .func (PySem.W.fnOf "quarter" "quarter" (defArgs (topS 25)) (defBody (topS 25)) (defScope (topS 25)) .none kV14 dc14 pm14 an14 cd14 ct14), sl14⟩) (c14 : PySem.W.codeIn K cd14 "quarter" = true) (k14 : PySem.W.keepIn K (.ref f14) = true)
    {f15 : Addr} {od15 an15 : Option Addr} {sl15 : Array (Option Value)} {oc15 kV15 dc15 pm15 cd15 ct15 : Value}
    (a15 : PySem.W.nsIn K mainGlobals "turned_by" = some (some (.ref f15))) (l15 : K.lookup f15 = some ⟨oc15, od15, .func (PySem.W.fnOf "turned_by" "turned_by" (defArgs (topS 26)) (defBody (topS 26)) (defScope (topS 26)) .none kV15 dc15 pm15 an15 cd15 ct15), sl15⟩) (c15 : PySem.W.codeIn K cd15 "turned_by" = true) (k15 : PySem.W.keepIn K (.ref f15) = true)
    {f16 : Addr} {od16 an16 : Option Addr} {sl16 : Array (Option Value)} {oc16 kV16 dc16 pm16 cd16 ct16 : Value}
    (a16 : PySem.W.nsIn K mainGlobals "placed" = some (some (.ref f16))) (l16 : K.lookup f16 = some ⟨oc16, od16, .func (PySem.W.fnOf "placed" "placed" (defArgs (topS 33)) (defBody (topS 33)) (defScope (topS 33)) .none kV16 dc16 pm16 an16 cd16 ct16), sl16⟩) (c16 : PySem.W.codeIn K cd16 "placed" = true) (k16 : PySem.W.keepIn K (.ref f16) = true)
    {f17 : Addr} {od17 an17 : Option Addr} {sl17 : Array (Option Value)} {oc17 kV17 dc17 pm17 cd17 ct17 : Value}
    (a17 : PySem.W.nsIn K mainGlobals "stands" = some (some (.ref f17))) (l17 : K.lookup f17 = some ⟨oc17, od17, .func (PySem.W.fnOf "stands" "stands" (defArgs (topS 34)) (defBody (topS 34)) (defScope (topS 34)) .none kV17 dc17 pm17 an17 cd17 ct17), sl17⟩) (c17 : PySem.W.codeIn K cd17 "stands" = true) (k17 : PySem.W.keepIn K (.ref f17) = true)
    {f18 : Addr} {od18 an18 : Option Addr} {sl18 : Array (Option Value)} {oc18 kV18 dc18 pm18 cd18 ct18 : Value}
    (a18 : PySem.W.nsIn K mainGlobals "look_free" = some (some (.ref f18))) (l18 : K.lookup f18 = some ⟨oc18, od18, .func (PySem.W.fnOf "look_free" "look_free" (defArgs (topS 36)) (defBody (topS 36)) (defScope (topS 36)) .none kV18 dc18 pm18 an18 cd18 ct18), sl18⟩) (c18 : PySem.W.codeIn K cd18 "look_free" = true) (k18 : PySem.W.keepIn K (.ref f18) = true)
    {f19 : Addr} {od19 an19 : Option Addr} {sl19 : Array (Option Value)} {oc19 kV19 dc19 pm19 cd19 ct19 : Value}
    (a19 : PySem.W.nsIn K mainGlobals "slides" = some (some (.ref f19))) (l19 : K.lookup f19 = some ⟨oc19, od19, .func (PySem.W.fnOf "slides" "slides" (defArgs (topS 37)) (defBody (topS 37)) (defScope (topS 37)) .none kV19 dc19 pm19 an19 cd19 ct19), sl19⟩) (c19 : PySem.W.codeIn K cd19 "slides" = true) (k19 : PySem.W.keepIn K (.ref f19) = true)
    {f20 : Addr} {od20 an20 : Option Addr} {sl20 : Array (Option Value)} {oc20  dc20 pm20 cd20 ct20 : Value} {D20 : Addr}
    (a20 : PySem.W.nsIn K mainGlobals "farthest_slide" = some (some (.ref f20))) (l20 : K.lookup f20 = some ⟨oc20, od20, .func (PySem.W.fnOf "farthest_slide" "farthest_slide" (defArgs (topS 41)) (defBody (topS 41)) (defScope (topS 41)) .none (.ref D20) dc20 pm20 an20 cd20 ct20), sl20⟩) (c20 : PySem.W.codeIn K cd20 "farthest_slide" = true) (k20 : PySem.W.keepIn K (.ref f20) = true)
    {t20_x : Tok} (e20_x : PySem.W.nsIn K D20 "x" = some (some (.int 0 t20_x)))
    {t20_y : Tok} (e20_y : PySem.W.nsIn K D20 "y" = some (some (.int 0 t20_y)))
    {f21 : Addr} {od21 an21 : Option Addr} {sl21 : Array (Option Value)} {oc21  dc21 pm21 cd21 ct21 : Value} {D21 : Addr}
    (a21 : PySem.W.nsIn K mainGlobals "may_slide" = some (some (.ref f21))) (l21 : K.lookup f21 = some ⟨oc21, od21, .func (PySem.W.fnOf "may_slide" "may_slide" (defArgs (topS 38)) (defBody (topS 38)) (defScope (topS 38)) .none (.ref D21) dc21 pm21 an21 cd21 ct21), sl21⟩) (c21 : PySem.W.codeIn K cd21 "may_slide" = true) (k21 : PySem.W.keepIn K (.ref f21) = true)
    {t21_x : Tok} (e21_x : PySem.W.nsIn K D21 "x" = some (some (.int 0 t21_x)))
    {t21_y : Tok} (e21_y : PySem.W.nsIn K D21 "y" = some (some (.int 0 t21_y)))
    {f22 : Addr} {od22 an22 : Option Addr} {sl22 : Array (Option Value)} {oc22 kV22 dc22 pm22 cd22 ct22 : Value}
    (a22 : PySem.W.nsIn K mainGlobals "_law_slide" = some (some (.ref f22))) (l22 : K.lookup f22 = some ⟨oc22, od22, .func (PySem.W.fnOf "_law_slide" "_law_slide" (defArgs (topS 74)) (defBody (topS 74)) (defScope (topS 74)) .none kV22 dc22 pm22 an22 cd22 ct22), sl22⟩) (c22 : PySem.W.codeIn K cd22 "_law_slide" = true) (k22 : PySem.W.keepIn K (.ref f22) = true)
    {f23 : Addr} {od23 an23 : Option Addr} {sl23 : Array (Option Value)} {oc23 kV23 dc23 pm23 cd23 ct23 : Value}
    (a23 : PySem.W.nsIn K mainGlobals "frame_of" = some (some (.ref f23))) (l23 : K.lookup f23 = some ⟨oc23, od23, .func (PySem.W.fnOf "frame_of" "frame_of" (defArgs (topS 27)) (defBody (topS 27)) (defScope (topS 27)) .none kV23 dc23 pm23 an23 cd23 ct23), sl23⟩) (c23 : PySem.W.codeIn K cd23 "frame_of" = true) (k23 : PySem.W.keepIn K (.ref f23) = true)
    {f24 : Addr} {od24 an24 : Option Addr} {sl24 : Array (Option Value)} {oc24 kV24 dc24 pm24 cd24 ct24 : Value}
    (a24 : PySem.W.nsIn K mainGlobals "turns_at" = some (some (.ref f24))) (l24 : K.lookup f24 = some ⟨oc24, od24, .func (PySem.W.fnOf "turns_at" "turns_at" (defArgs (topS 39)) (defBody (topS 39)) (defScope (topS 39)) .none kV24 dc24 pm24 an24 cd24 ct24), sl24⟩) (c24 : PySem.W.codeIn K cd24 "turns_at" = true) (k24 : PySem.W.keepIn K (.ref f24) = true)
    {f25 : Addr} {od25 an25 : Option Addr} {sl25 : Array (Option Value)} {oc25 kV25 dc25 pm25 cd25 ct25 : Value}
    (a25 : PySem.W.nsIn K mainGlobals "may_turn" = some (some (.ref f25))) (l25 : K.lookup f25 = some ⟨oc25, od25, .func (PySem.W.fnOf "may_turn" "may_turn" (defArgs (topS 40)) (defBody (topS 40)) (defScope (topS 40)) .none kV25 dc25 pm25 an25 cd25 ct25), sl25⟩) (c25 : PySem.W.codeIn K cd25 "may_turn" = true) (k25 : PySem.W.keepIn K (.ref f25) = true)
    {f26 : Addr} {od26 an26 : Option Addr} {sl26 : Array (Option Value)} {oc26 kV26 dc26 pm26 cd26 ct26 : Value}
    (a26 : PySem.W.nsIn K mainGlobals "gap_between" = some (some (.ref f26))) (l26 : K.lookup f26 = some ⟨oc26, od26, .func (PySem.W.fnOf "gap_between" "gap_between" (defArgs (topS 65)) (defBody (topS 65)) (defScope (topS 65)) .none kV26 dc26 pm26 an26 cd26 ct26), sl26⟩) (c26 : PySem.W.codeIn K cd26 "gap_between" = true) (k26 : PySem.W.keepIn K (.ref f26) = true)
    {f27 : Addr} {od27 an27 : Option Addr} {sl27 : Array (Option Value)} {oc27 kV27 dc27 pm27 cd27 ct27 : Value}
    (a27 : PySem.W.nsIn K mainGlobals "room_at" = some (some (.ref f27))) (l27 : K.lookup f27 = some ⟨oc27, od27, .func (PySem.W.fnOf "room_at" "room_at" (defArgs (topS 66)) (defBody (topS 66)) (defScope (topS 66)) .none kV27 dc27 pm27 an27 cd27 ct27), sl27⟩) (c27 : PySem.W.codeIn K cd27 "room_at" = true) (k27 : PySem.W.keepIn K (.ref f27) = true)
    {f28 : Addr} {od28 an28 : Option Addr} {sl28 : Array (Option Value)} {oc28 kV28 dc28 pm28 cd28 ct28 : Value}
    (a28 : PySem.W.nsIn K mainGlobals "clearance" = some (some (.ref f28))) (l28 : K.lookup f28 = some ⟨oc28, od28, .func (PySem.W.fnOf "clearance" "clearance" (defArgs (topS 67)) (defBody (topS 67)) (defScope (topS 67)) .none kV28 dc28 pm28 an28 cd28 ct28), sl28⟩) (c28 : PySem.W.codeIn K cd28 "clearance" = true) (k28 : PySem.W.keepIn K (.ref f28) = true)
    {f29 : Addr} {od29 an29 : Option Addr} {sl29 : Array (Option Value)} {oc29 kV29 dc29 pm29 cd29 ct29 : Value}
    (a29 : PySem.W.nsIn K mainGlobals "edges_of" = some (some (.ref f29))) (l29 : K.lookup f29 = some ⟨oc29, od29, .func (PySem.W.fnOf "edges_of" "edges_of" (defArgs (topS 43)) (defBody (topS 43)) (defScope (topS 43)) .none kV29 dc29 pm29 an29 cd29 ct29), sl29⟩) (c29 : PySem.W.codeIn K cd29 "edges_of" = true) (k29 : PySem.W.keepIn K (.ref f29) = true)
    {f30 : Addr} {od30 an30 : Option Addr} {sl30 : Array (Option Value)} {oc30 kV30 dc30 pm30 cd30 ct30 : Value}
    (a30 : PySem.W.nsIn K mainGlobals "lines_for" = some (some (.ref f30))) (l30 : K.lookup f30 = some ⟨oc30, od30, .func (PySem.W.fnOf "lines_for" "lines_for" (defArgs (topS 44)) (defBody (topS 44)) (defScope (topS 44)) .none kV30 dc30 pm30 an30 cd30 ct30), sl30⟩) (c30 : PySem.W.codeIn K cd30 "lines_for" = true) (k30 : PySem.W.keepIn K (.ref f30) = true)
    {f31 : Addr} {od31 an31 : Option Addr} {sl31 : Array (Option Value)} {oc31 kV31 dc31 pm31 cd31 ct31 : Value}
    (a31 : PySem.W.nsIn K mainGlobals "next_to" = some (some (.ref f31))) (l31 : K.lookup f31 = some ⟨oc31, od31, .func (PySem.W.fnOf "next_to" "next_to" (defArgs (topS 47)) (defBody (topS 47)) (defScope (topS 47)) .none kV31 dc31 pm31 an31 cd31 ct31), sl31⟩) (c31 : PySem.W.codeIn K cd31 "next_to" = true) (k31 : PySem.W.keepIn K (.ref f31) = true)
    {f32 : Addr} {od32 an32 : Option Addr} {sl32 : Array (Option Value)} {oc32 kV32 dc32 pm32 cd32 ct32 : Value}
    (a32 : PySem.W.nsIn K mainGlobals "neighbours" = some (some (.ref f32))) (l32 : K.lookup f32 = some ⟨oc32, od32, .func (PySem.W.fnOf "neighbours" "neighbours" (defArgs (topS 46)) (defBody (topS 46)) (defScope (topS 46)) .none kV32 dc32 pm32 an32 cd32 ct32), sl32⟩) (c32 : PySem.W.codeIn K cd32 "neighbours" = true) (k32 : PySem.W.keepIn K (.ref f32) = true)
    {f33 : Addr} {od33 an33 : Option Addr} {sl33 : Array (Option Value)} {oc33 kV33 dc33 pm33 cd33 ct33 : Value}
    (a33 : PySem.W.nsIn K mainGlobals "come_to" = some (some (.ref f33))) (l33 : K.lookup f33 = some ⟨oc33, od33, .func (PySem.W.fnOf "come_to" "come_to" (defArgs (topS 58)) (defBody (topS 58)) (defScope (topS 58)) .none kV33 dc33 pm33 an33 cd33 ct33), sl33⟩) (c33 : PySem.W.codeIn K cd33 "come_to" = true) (k33 : PySem.W.keepIn K (.ref f33) = true)
    {f34 : Addr} {od34 an34 : Option Addr} {sl34 : Array (Option Value)} {oc34 kV34 dc34 pm34 cd34 ct34 : Value}
    (a34 : PySem.W.nsIn K mainGlobals "reach" = some (some (.ref f34))) (l34 : K.lookup f34 = some ⟨oc34, od34, .func (PySem.W.fnOf "reach" "reach" (defArgs (topS 59)) (defBody (topS 59)) (defScope (topS 59)) .none kV34 dc34 pm34 an34 cd34 ct34), sl34⟩) (c34 : PySem.W.codeIn K cd34 "reach" = true) (k34 : PySem.W.keepIn K (.ref f34) = true)
    {f35 : Addr} {od35 an35 : Option Addr} {sl35 : Array (Option Value)} {oc35 kV35 dc35 pm35 cd35 ct35 : Value} {T35 E35 : Addr}
    (a35 : PySem.W.nsIn K mainGlobals "lines" = some (some (.ref f35))) (l35 : K.lookup f35 = some ⟨oc35, od35, .func (PySem.W.fnOf "lines" "lines" (defArgs (topS 45)) (defBody (topS 45)) (defScope (topS 45)) (.ref T35) kV35 dc35 pm35 an35 cd35 ct35), sl35⟩) (c35 : PySem.W.codeIn K cd35 "lines" = true) (k35 : PySem.W.keepIn K (.ref f35) = true)
    {u35 v35 : Option Addr} {w35 : Value} {x35 y35 : Nat} {q35 r35 : Array (Option Value)} (g35 : K.lookup T35 = some ⟨w35, u35, .seq #[.ref E35] x35, q35⟩) (h35 : K.lookup E35 = some ⟨.type "tuple", v35, .seq #[] y35, r35⟩)
    {f36 : Addr} {od36 an36 : Option Addr} {sl36 : Array (Option Value)} {oc36 kV36 dc36 pm36 cd36 ct36 : Value} {T36 E36 : Addr}
    (a36 : PySem.W.nsIn K mainGlobals "corners" = some (some (.ref f36))) (l36 : K.lookup f36 = some ⟨oc36, od36, .func (PySem.W.fnOf "corners" "corners" (defArgs (topS 48)) (defBody (topS 48)) (defScope (topS 48)) (.ref T36) kV36 dc36 pm36 an36 cd36 ct36), sl36⟩) (c36 : PySem.W.codeIn K cd36 "corners" = true) (k36 : PySem.W.keepIn K (.ref f36) = true)
    {u36 v36 : Option Addr} {w36 : Value} {x36 y36 : Nat} {q36 r36 : Array (Option Value)} (g36 : K.lookup T36 = some ⟨w36, u36, .seq #[.ref E36] x36, q36⟩) (h36 : K.lookup E36 = some ⟨.type "tuple", v36, .seq #[] y36, r36⟩)
    {f37 : Addr} {od37 an37 : Option Addr} {sl37 : Array (Option Value)} {oc37 kV37 dc37 pm37 cd37 ct37 : Value}
    (a37 : PySem.W.nsIn K mainGlobals "parts_of" = some (some (.ref f37))) (l37 : K.lookup f37 = some ⟨oc37, od37, .func (PySem.W.fnOf "parts_of" "parts_of" (defArgs (topS 62)) (defBody (topS 62)) (defScope (topS 62)) .none kV37 dc37 pm37 an37 cd37 ct37), sl37⟩) (c37 : PySem.W.codeIn K cd37 "parts_of" = true) (k37 : PySem.W.keepIn K (.ref f37) = true)
    {f38 : Addr} {od38 an38 : Option Addr} {sl38 : Array (Option Value)} {oc38 kV38 dc38 pm38 cd38 ct38 : Value}
    (a38 : PySem.W.nsIn K mainGlobals "parts" = some (some (.ref f38))) (l38 : K.lookup f38 = some ⟨oc38, od38, .func (PySem.W.fnOf "parts" "parts" (defArgs (topS 61)) (defBody (topS 61)) (defScope (topS 61)) .none kV38 dc38 pm38 an38 cd38 ct38), sl38⟩) (c38 : PySem.W.codeIn K cd38 "parts" = true) (k38 : PySem.W.keepIn K (.ref f38) = true)
    {f39 : Addr} {od39 an39 : Option Addr} {sl39 : Array (Option Value)} {oc39 kV39 dc39 pm39 cd39 ct39 : Value}
    (a39 : PySem.W.nsIn K mainGlobals "part_of" = some (some (.ref f39))) (l39 : K.lookup f39 = some ⟨oc39, od39, .func (PySem.W.fnOf "part_of" "part_of" (defArgs (topS 63)) (defBody (topS 63)) (defScope (topS 63)) .none kV39 dc39 pm39 an39 cd39 ct39), sl39⟩) (c39 : PySem.W.codeIn K cd39 "part_of" = true) (k39 : PySem.W.keepIn K (.ref f39) = true)
    {f40 : Addr} {od40 an40 : Option Addr} {sl40 : Array (Option Value)} {oc40 kV40 dc40 pm40 cd40 ct40 : Value}
    (a40 : PySem.W.nsIn K mainGlobals "look_number" = some (some (.ref f40))) (l40 : K.lookup f40 = some ⟨oc40, od40, .func (PySem.W.fnOf "look_number" "look_number" (defArgs (topS 11)) (defBody (topS 11)) (defScope (topS 11)) .none kV40 dc40 pm40 an40 cd40 ct40), sl40⟩) (c40 : PySem.W.codeIn K cd40 "look_number" = true) (k40 : PySem.W.keepIn K (.ref f40) = true)
    {f41 : Addr} {od41 an41 : Option Addr} {sl41 : Array (Option Value)} {oc41 kV41 dc41 pm41 cd41 ct41 : Value}
    (a41 : PySem.W.nsIn K mainGlobals "led_back" = some (some (.ref f41))) (l41 : K.lookup f41 = some ⟨oc41, od41, .func (PySem.W.fnOf "led_back" "led_back" (defArgs (topS 53)) (defBody (topS 53)) (defScope (topS 53)) .none kV41 dc41 pm41 an41 cd41 ct41), sl41⟩) (c41 : PySem.W.codeIn K cd41 "led_back" = true) (k41 : PySem.W.keepIn K (.ref f41) = true)
    {f42 : Addr} {od42 an42 : Option Addr} {sl42 : Array (Option Value)} {oc42 kV42 dc42 pm42 cd42 ct42 : Value}
    (a42 : PySem.W.nsIn K mainGlobals "length_of" = some (some (.ref f42))) (l42 : K.lookup f42 = some ⟨oc42, od42, .func (PySem.W.fnOf "length_of" "length_of" (defArgs (topS 51)) (defBody (topS 51)) (defScope (topS 51)) .none kV42 dc42 pm42 an42 cd42 ct42), sl42⟩) (c42 : PySem.W.codeIn K cd42 "length_of" = true) (k42 : PySem.W.keepIn K (.ref f42) = true)
    {f43 : Addr} {od43 an43 : Option Addr} {sl43 : Array (Option Value)} {oc43 kV43 dc43 pm43 cd43 ct43 : Value}
    (a43 : PySem.W.nsIn K mainGlobals "sought" = some (some (.ref f43))) (l43 : K.lookup f43 = some ⟨oc43, od43, .func (PySem.W.fnOf "sought" "sought" (defArgs (topS 52)) (defBody (topS 52)) (defScope (topS 52)) .none kV43 dc43 pm43 an43 cd43 ct43), sl43⟩) (c43 : PySem.W.codeIn K cd43 "sought" = true) (k43 : PySem.W.keepIn K (.ref f43) = true)
    {f44 : Addr} {od44 an44 : Option Addr} {sl44 : Array (Option Value)} {oc44 kV44 dc44 pm44 cd44 ct44 : Value}
    (a44 : PySem.W.nsIn K mainGlobals "is_straight" = some (some (.ref f44))) (l44 : K.lookup f44 = some ⟨oc44, od44, .func (PySem.W.fnOf "is_straight" "is_straight" (defArgs (topS 55)) (defBody (topS 55)) (defScope (topS 55)) .none kV44 dc44 pm44 an44 cd44 ct44), sl44⟩) (c44 : PySem.W.codeIn K cd44 "is_straight" = true) (k44 : PySem.W.keepIn K (.ref f44) = true)
    {f45 : Addr} {od45 an45 : Option Addr} {sl45 : Array (Option Value)} {oc45 kV45 dc45 pm45 cd45 ct45 : Value}
    (a45 : PySem.W.nsIn K mainGlobals "shortened" = some (some (.ref f45))) (l45 : K.lookup f45 = some ⟨oc45, od45, .func (PySem.W.fnOf "shortened" "shortened" (defArgs (topS 54)) (defBody (topS 54)) (defScope (topS 54)) .none kV45 dc45 pm45 an45 cd45 ct45), sl45⟩) (c45 : PySem.W.codeIn K cd45 "shortened" = true) (k45 : PySem.W.keepIn K (.ref f45) = true)
    {f46 : Addr} {od46 an46 : Option Addr} {sl46 : Array (Option Value)} {oc46  dc46 pm46 cd46 ct46 : Value} {D46 : Addr}
    (a46 : PySem.W.nsIn K mainGlobals "way" = some (some (.ref f46))) (l46 : K.lookup f46 = some ⟨oc46, od46, .func (PySem.W.fnOf "way" "way" (defArgs (topS 56)) (defBody (topS 56)) (defScope (topS 56)) .none (.ref D46) dc46 pm46 an46 cd46 ct46), sl46⟩) (c46 : PySem.W.codeIn K cd46 "way" = true) (k46 : PySem.W.keepIn K (.ref f46) = true)
    {t46_price : Tok} (e46_price : PySem.W.nsIn K D46 "price" = some (some (.int 1 t46_price)))
    {f47 : Addr} {od47 an47 : Option Addr} {sl47 : Array (Option Value)} {oc47 kV47 dc47 pm47 cd47 ct47 : Value}
    (a47 : PySem.W.nsIn K mainGlobals "is_free" = some (some (.ref f47))) (l47 : K.lookup f47 = some ⟨oc47, od47, .func (PySem.W.fnOf "is_free" "is_free" (defArgs (topS 35)) (defBody (topS 35)) (defScope (topS 35)) .none kV47 dc47 pm47 an47 cd47 ct47), sl47⟩) (c47 : PySem.W.codeIn K cd47 "is_free" = true) (k47 : PySem.W.keepIn K (.ref f47) = true)
    {f48 : Addr} {od48 an48 : Option Addr} {sl48 : Array (Option Value)} {oc48 kV48 dc48 pm48 cd48 ct48 : Value}
    (a48 : PySem.W.nsIn K mainGlobals "_law_does" = some (some (.ref f48))) (l48 : K.lookup f48 = some ⟨oc48, od48, .func (PySem.W.fnOf "_law_does" "_law_does" (defArgs (topS 72)) (defBody (topS 72)) (defScope (topS 72)) .none kV48 dc48 pm48 an48 cd48 ct48), sl48⟩) (c48 : PySem.W.codeIn K cd48 "_law_does" = true) (k48 : PySem.W.keepIn K (.ref f48) = true)
    {f49 : Addr} {od49 an49 : Option Addr} {sl49 : Array (Option Value)} {oc49 kV49 dc49 pm49 cd49 ct49 : Value}
    (a49 : PySem.W.nsIn K mainGlobals "_law_asked" = some (some (.ref f49))) (l49 : K.lookup f49 = some ⟨oc49, od49, .func (PySem.W.fnOf "_law_asked" "_law_asked" (defArgs (topS 73)) (defBody (topS 73)) (defScope (topS 73)) .none kV49 dc49 pm49 an49 cd49 ct49), sl49⟩) (c49 : PySem.W.codeIn K cd49 "_law_asked" = true) (k49 : PySem.W.keepIn K (.ref f49) = true)
    {f50 : Addr} {od50 an50 : Option Addr} {sl50 : Array (Option Value)} {oc50 kV50 dc50 pm50 cd50 ct50 : Value}
    (a50 : PySem.W.nsIn K mainGlobals "law" = some (some (.ref f50))) (l50 : K.lookup f50 = some ⟨oc50, od50, .func (PySem.W.fnOf "law" "law" (defArgs (topS 75)) (defBody (topS 75)) (defScope (topS 75)) .none kV50 dc50 pm50 an50 cd50 ct50), sl50⟩) (c50 : PySem.W.codeIn K cd50 "law" = true) (k50 : PySem.W.keepIn K (.ref f50) = true)
    (z0 : PySem.W.nsIn K mainGlobals "ValueError" = some none)
    (z1 : PySem.W.nsIn K mainGlobals "abs" = some none)
    (z2 : PySem.W.nsIn K mainGlobals "all" = some none)
    (z3 : PySem.W.nsIn K mainGlobals "any" = some none)
    (z4 : PySem.W.nsIn K mainGlobals "bool" = some none)
    (z5 : PySem.W.nsIn K mainGlobals "int" = some none)
    (z6 : PySem.W.nsIn K mainGlobals "isinstance" = some none)
    (z7 : PySem.W.nsIn K mainGlobals "len" = some none)
    (z8 : PySem.W.nsIn K mainGlobals "list" = some none)
    (z9 : PySem.W.nsIn K mainGlobals "max" = some none)
    (z10 : PySem.W.nsIn K mainGlobals "min" = some none)
    (z11 : PySem.W.nsIn K mainGlobals "range" = some none)
    (z12 : PySem.W.nsIn K mainGlobals "set" = some none)
    (z13 : PySem.W.nsIn K mainGlobals "sorted" = some none)
    (z14 : PySem.W.nsIn K mainGlobals "tuple" = some none)
    {t0 : Tok} (n0 : PySem.W.nsIn K mainGlobals "FAR" = some (some (.int 200 t0)))
    {t1 : Tok} (n1 : PySem.W.nsIn K mainGlobals "MOST_BLOCKS" = some (some (.int 16 t1)))
    {t2 : Tok} (n2 : PySem.W.nsIn K mainGlobals "MOST_PRICE" = some (some (.int 1000 t2)))
    {t3 : Tok} (n3 : PySem.W.nsIn K mainGlobals "MOST_RECTS" = some (some (.int 6 t3)))
    {t4 : Tok} (n4 : PySem.W.nsIn K mainGlobals "MOST_bodies" = some (some (.int 8 t4)))
    {t5 : Tok} (n5 : PySem.W.nsIn K mainGlobals "MOST_rooms" = some (some (.int 60 t5)))
    {A_BadNumber : Addr}
    (g_BadNumber : PySem.W.nsIn K mainGlobals "BadNumber" = some (some (.ref A_BadNumber)))
    (b_BadNumber : PySem.W.subIn K (.ref A_BadNumber) (.type "BaseException") = some true)
    (t_BadNumber : PySem.W.typeIn K (.ref A_BadNumber) = some (.type "type"))
    (hd_BadNumber : PySem.W.hasDictIn K A_BadNumber = true)
    {A_BadRoom : Addr}
    (g_BadRoom : PySem.W.nsIn K mainGlobals "BadRoom" = some (some (.ref A_BadRoom)))
    (b_BadRoom : PySem.W.subIn K (.ref A_BadRoom) (.type "BaseException") = some true)
    (t_BadRoom : PySem.W.typeIn K (.ref A_BadRoom) = some (.type "type"))
    (hd_BadRoom : PySem.W.hasDictIn K A_BadRoom = true)
    {A_BadBody : Addr}
    (g_BadBody : PySem.W.nsIn K mainGlobals "BadBody" = some (some (.ref A_BadBody)))
    (b_BadBody : PySem.W.subIn K (.ref A_BadBody) (.type "BaseException") = some true)
    (t_BadBody : PySem.W.typeIn K (.ref A_BadBody) = some (.type "type"))
    (hd_BadBody : PySem.W.hasDictIn K A_BadBody = true)
    {A_BadStanding : Addr}
    (g_BadStanding : PySem.W.nsIn K mainGlobals "BadStanding" = some (some (.ref A_BadStanding)))
    (b_BadStanding : PySem.W.subIn K (.ref A_BadStanding) (.type "BaseException") = some true)
    (t_BadStanding : PySem.W.typeIn K (.ref A_BadStanding) = some (.type "type"))
    (hd_BadStanding : PySem.W.hasDictIn K A_BadStanding = true)
    {A_NotFree : Addr}
    (g_NotFree : PySem.W.nsIn K mainGlobals "NotFree" = some (some (.ref A_NotFree)))
    (b_NotFree : PySem.W.subIn K (.ref A_NotFree) (.type "BaseException") = some true)
    (t_NotFree : PySem.W.typeIn K (.ref A_NotFree) = some (.type "type"))
    (hd_NotFree : PySem.W.hasDictIn K A_NotFree = true)
    {A_BadWay : Addr}
    (g_BadWay : PySem.W.nsIn K mainGlobals "BadWay" = some (some (.ref A_BadWay)))
    (b_BadWay : PySem.W.subIn K (.ref A_BadWay) (.type "BaseException") = some true)
    (t_BadWay : PySem.W.typeIn K (.ref A_BadWay) = some (.type "type"))
    (hd_BadWay : PySem.W.hasDictIn K A_BadWay = true)
    {A_BadText : Addr}
    (g_BadText : PySem.W.nsIn K mainGlobals "BadText" = some (some (.ref A_BadText)))
    (b_BadText : PySem.W.subIn K (.ref A_BadText) (.type "BaseException") = some true)
    (t_BadText : PySem.W.typeIn K (.ref A_BadText) = some (.type "type"))
    (hd_BadText : PySem.W.hasDictIn K A_BadText = true)
    {A_NoDeed : Addr}
    (g_NoDeed : PySem.W.nsIn K mainGlobals "NoDeed" = some (some (.ref A_NoDeed)))
    (b_NoDeed : PySem.W.subIn K (.ref A_NoDeed) (.type "BaseException") = some true)
    (t_NoDeed : PySem.W.typeIn K (.ref A_NoDeed) = some (.type "type"))
    (hd_NoDeed : PySem.W.hasDictIn K A_NoDeed = true)
    {A_WayError : Addr}
    (g_WayError : PySem.W.nsIn K mainGlobals "WayError" = some (some (.ref A_WayError)))
    (b_WayError : PySem.W.subIn K (.ref A_WayError) (.type "BaseException") = some true)
    (t_WayError : PySem.W.typeIn K (.ref A_WayError) = some (.type "type"))
    (hd_WayError : PySem.W.hasDictIn K A_WayError = true)
    (x_BadNumber : PySem.W.excIn K A_BadNumber [.type "ValueError", .type "Exception", .type "BaseException", .type "object"] "ValueError.__new__" = true)
    (k_BadNumber : PySem.W.keepIn K (.ref A_BadNumber) = true)
    (hg_BadNumber : PySem.W.findIn K (.ref A_BadNumber) "__getattribute__" = some (some (.builtin "BaseException.__getattribute__")))
    (hk_BadNumber : PySem.W.findIn K (.ref A_BadNumber) "__getattr__" = some none)
    (ha_BadNumber : PySem.W.findIn K (.ref A_BadNumber) "__class__" = some (some (.builtin "object.__class__")))
    (hm_BadNumber : PySem.W.mroIn K A_BadNumber (.type "object") = some true)
    (s_BadNumber_BadNumber : PySem.W.subIn K (.ref A_BadNumber) (.ref A_BadNumber) = some true)
    (s_BadNumber_BadRoom : PySem.W.subIn K (.ref A_BadNumber) (.ref A_BadRoom) = some false)
    (s_BadNumber_BadBody : PySem.W.subIn K (.ref A_BadNumber) (.ref A_BadBody) = some false)
    (s_BadNumber_BadStanding : PySem.W.subIn K (.ref A_BadNumber) (.ref A_BadStanding) = some false)
    (s_BadNumber_NotFree : PySem.W.subIn K (.ref A_BadNumber) (.ref A_NotFree) = some false)
    (s_BadNumber_BadWay : PySem.W.subIn K (.ref A_BadNumber) (.ref A_BadWay) = some false)
    (s_BadNumber_BadText : PySem.W.subIn K (.ref A_BadNumber) (.ref A_BadText) = some false)
    (s_BadNumber_NoDeed : PySem.W.subIn K (.ref A_BadNumber) (.ref A_NoDeed) = some false)
    (s_BadNumber_WayError : PySem.W.subIn K (.ref A_BadNumber) (.ref A_WayError) = some true)
    (s_BadNumber_ValueError : PySem.W.subIn K (.ref A_BadNumber) (.type "ValueError") = some true)
    (x_BadRoom : PySem.W.excIn K A_BadRoom [.type "ValueError", .type "Exception", .type "BaseException", .type "object"] "ValueError.__new__" = true)
    (k_BadRoom : PySem.W.keepIn K (.ref A_BadRoom) = true)
    (hg_BadRoom : PySem.W.findIn K (.ref A_BadRoom) "__getattribute__" = some (some (.builtin "BaseException.__getattribute__")))
    (hk_BadRoom : PySem.W.findIn K (.ref A_BadRoom) "__getattr__" = some none)
    (ha_BadRoom : PySem.W.findIn K (.ref A_BadRoom) "__class__" = some (some (.builtin "object.__class__")))
    (hm_BadRoom : PySem.W.mroIn K A_BadRoom (.type "object") = some true)
    (s_BadRoom_BadNumber : PySem.W.subIn K (.ref A_BadRoom) (.ref A_BadNumber) = some false)
    (s_BadRoom_BadRoom : PySem.W.subIn K (.ref A_BadRoom) (.ref A_BadRoom) = some true)
    (s_BadRoom_BadBody : PySem.W.subIn K (.ref A_BadRoom) (.ref A_BadBody) = some false)
    (s_BadRoom_BadStanding : PySem.W.subIn K (.ref A_BadRoom) (.ref A_BadStanding) = some false)
    (s_BadRoom_NotFree : PySem.W.subIn K (.ref A_BadRoom) (.ref A_NotFree) = some false)
    (s_BadRoom_BadWay : PySem.W.subIn K (.ref A_BadRoom) (.ref A_BadWay) = some false)
    (s_BadRoom_BadText : PySem.W.subIn K (.ref A_BadRoom) (.ref A_BadText) = some false)
    (s_BadRoom_NoDeed : PySem.W.subIn K (.ref A_BadRoom) (.ref A_NoDeed) = some false)
    (s_BadRoom_WayError : PySem.W.subIn K (.ref A_BadRoom) (.ref A_WayError) = some true)
    (s_BadRoom_ValueError : PySem.W.subIn K (.ref A_BadRoom) (.type "ValueError") = some true)
    (x_BadBody : PySem.W.excIn K A_BadBody [.type "ValueError", .type "Exception", .type "BaseException", .type "object"] "ValueError.__new__" = true)
    (k_BadBody : PySem.W.keepIn K (.ref A_BadBody) = true)
    (hg_BadBody : PySem.W.findIn K (.ref A_BadBody) "__getattribute__" = some (some (.builtin "BaseException.__getattribute__")))
    (hk_BadBody : PySem.W.findIn K (.ref A_BadBody) "__getattr__" = some none)
    (ha_BadBody : PySem.W.findIn K (.ref A_BadBody) "__class__" = some (some (.builtin "object.__class__")))
    (hm_BadBody : PySem.W.mroIn K A_BadBody (.type "object") = some true)
    (s_BadBody_BadNumber : PySem.W.subIn K (.ref A_BadBody) (.ref A_BadNumber) = some false)
    (s_BadBody_BadRoom : PySem.W.subIn K (.ref A_BadBody) (.ref A_BadRoom) = some false)
    (s_BadBody_BadBody : PySem.W.subIn K (.ref A_BadBody) (.ref A_BadBody) = some true)
    (s_BadBody_BadStanding : PySem.W.subIn K (.ref A_BadBody) (.ref A_BadStanding) = some false)
    (s_BadBody_NotFree : PySem.W.subIn K (.ref A_BadBody) (.ref A_NotFree) = some false)
    (s_BadBody_BadWay : PySem.W.subIn K (.ref A_BadBody) (.ref A_BadWay) = some false)
    (s_BadBody_BadText : PySem.W.subIn K (.ref A_BadBody) (.ref A_BadText) = some false)
    (s_BadBody_NoDeed : PySem.W.subIn K (.ref A_BadBody) (.ref A_NoDeed) = some false)
    (s_BadBody_WayError : PySem.W.subIn K (.ref A_BadBody) (.ref A_WayError) = some true)
    (s_BadBody_ValueError : PySem.W.subIn K (.ref A_BadBody) (.type "ValueError") = some true)
    (x_BadStanding : PySem.W.excIn K A_BadStanding [.type "ValueError", .type "Exception", .type "BaseException", .type "object"] "ValueError.__new__" = true)
    (k_BadStanding : PySem.W.keepIn K (.ref A_BadStanding) = true)
    (hg_BadStanding : PySem.W.findIn K (.ref A_BadStanding) "__getattribute__" = some (some (.builtin "BaseException.__getattribute__")))
    (hk_BadStanding : PySem.W.findIn K (.ref A_BadStanding) "__getattr__" = some none)
    (ha_BadStanding : PySem.W.findIn K (.ref A_BadStanding) "__class__" = some (some (.builtin "object.__class__")))
    (hm_BadStanding : PySem.W.mroIn K A_BadStanding (.type "object") = some true)
    (s_BadStanding_BadNumber : PySem.W.subIn K (.ref A_BadStanding) (.ref A_BadNumber) = some false)
    (s_BadStanding_BadRoom : PySem.W.subIn K (.ref A_BadStanding) (.ref A_BadRoom) = some false)
    (s_BadStanding_BadBody : PySem.W.subIn K (.ref A_BadStanding) (.ref A_BadBody) = some false)
    (s_BadStanding_BadStanding : PySem.W.subIn K (.ref A_BadStanding) (.ref A_BadStanding) = some true)
    (s_BadStanding_NotFree : PySem.W.subIn K (.ref A_BadStanding) (.ref A_NotFree) = some false)
    (s_BadStanding_BadWay : PySem.W.subIn K (.ref A_BadStanding) (.ref A_BadWay) = some false)
    (s_BadStanding_BadText : PySem.W.subIn K (.ref A_BadStanding) (.ref A_BadText) = some false)
    (s_BadStanding_NoDeed : PySem.W.subIn K (.ref A_BadStanding) (.ref A_NoDeed) = some false)
    (s_BadStanding_WayError : PySem.W.subIn K (.ref A_BadStanding) (.ref A_WayError) = some true)
    (s_BadStanding_ValueError : PySem.W.subIn K (.ref A_BadStanding) (.type "ValueError") = some true)
    (k_NotFree : PySem.W.keepIn K (.ref A_NotFree) = true)
    (hg_NotFree : PySem.W.findIn K (.ref A_NotFree) "__getattribute__" = some (some (.builtin "BaseException.__getattribute__")))
    (hk_NotFree : PySem.W.findIn K (.ref A_NotFree) "__getattr__" = some none)
    (ha_NotFree : PySem.W.findIn K (.ref A_NotFree) "__class__" = some (some (.builtin "object.__class__")))
    (hm_NotFree : PySem.W.mroIn K A_NotFree (.type "object") = some true)
    (s_NotFree_BadNumber : PySem.W.subIn K (.ref A_NotFree) (.ref A_BadNumber) = some false)
    (s_NotFree_BadRoom : PySem.W.subIn K (.ref A_NotFree) (.ref A_BadRoom) = some false)
    (s_NotFree_BadBody : PySem.W.subIn K (.ref A_NotFree) (.ref A_BadBody) = some false)
    (s_NotFree_BadStanding : PySem.W.subIn K (.ref A_NotFree) (.ref A_BadStanding) = some false)
    (s_NotFree_NotFree : PySem.W.subIn K (.ref A_NotFree) (.ref A_NotFree) = some true)
    (s_NotFree_BadWay : PySem.W.subIn K (.ref A_NotFree) (.ref A_BadWay) = some false)
    (s_NotFree_BadText : PySem.W.subIn K (.ref A_NotFree) (.ref A_BadText) = some false)
    (s_NotFree_NoDeed : PySem.W.subIn K (.ref A_NotFree) (.ref A_NoDeed) = some false)
    (s_NotFree_WayError : PySem.W.subIn K (.ref A_NotFree) (.ref A_WayError) = some true)
    (s_NotFree_ValueError : PySem.W.subIn K (.ref A_NotFree) (.type "ValueError") = some true)
    {nmN qN : Str} {NN fI : Addr} {bsN bmN : List Value} {snN : List Str} {subN : List Value} {abN : Bool} {colN : Option Bool} {ddN : Option Addr} {kN0 kN1 kN2 kN3 kN5 : Option Value} {ocI : Value} {odI anI : Option Addr} {kVI dcI pmI cdI ctI : Value} {slI : Array (Option Value)}
    (lN : K.lookup A_NotFree = some (excClassObj nmN qN A_NotFree NN bsN bmN true snN subN abN colN ddN kN0 kN1 kN2 kN3 kN5 "ValueError.__new__"))
    (rN : PySem.HandSPX.refsVE bmN = true)
    (saN : PySem.W.findIn K (.ref A_NotFree) "__setattr__" = some (some (.builtin "object.__setattr__")))
    (iN : PySem.W.findIn K (.ref A_NotFree) "__init__" = some (some (.ref fI)))
    (tI : PySem.W.typeIn K (.ref fI) = some (.type "function"))
    (fN : PySem.W.findIn K (.ref A_NotFree) "standing" = some none)
    (lI : K.lookup fI = some ⟨ocI, odI, .func (PySem.W.fnOf "__init__" "NotFree.__init__" (defArgs (iniS 6)) (defBody (iniS 6)) (defScope (iniS 6)) .none kVI dcI pmI anI cdI ctI), slI⟩)
    (cI : PySem.W.codeIn K cdI "NotFree.__init__" = true)
    (kI : PySem.W.keepIn K (.ref fI) = true)
    (hn_ : PySem.W.specialIn K (.builtin "object.__class__") "__get__" = some (some (.builtin "getset_descriptor.__get__")))
    (ht_ : PySem.W.takesIn K (.builtin "object.__class__") = some true)
    : ∃ fd : FuncData, (∀ (s : Shared) (v : Value), BindsTo s fd ⟨[v], []⟩ [("script", v)]) ∧ ∀ base : Heap, K.In base → base.Ns mainGlobals mg → FnOk l.prog w K mg base CX0 12 fa fd ["script"] (spLaw K) := by
  have e := hfa.symm.trans (PySem.W.mg_of X G a50)
  cases e
  have F0 := fun_mk (st := topS 69) l0 c0 k0
  have F1 := fun_mk (st := topS 70) l1 c1 k1
  have F2 := fun_mk (st := topS 71) l2 c2 k2
  have F3 := fun_mk (st := topS 10) l3 c3 k3
  have F4 := fun_mk (st := topS 15) l4 c4 k4
  have F5 := fun_mk (st := topS 16) l5 c5 k5
  have F6 := fun_mk (st := topS 17) l6 c6 k6
  have F7 := fun_mk (st := topS 23) l7 c7 k7
  have F8 := fun_mk (st := topS 24) l8 c8 k8
  have F9 := fun_mk (st := topS 32) l9 c9 k9
  have F10 := fun_mk (st := topS 30) l10 c10 k10
  have F11 := fun_mk (st := topS 31) l11 c11 k11
  have F12 := fun_mk (st := topS 18) l12 c12 k12
  have F13 := fun_mk (st := topS 19) l13 c13 k13
  have F14 := fun_mk (st := topS 25) l14 c14 k14
  have F15 := fun_mk (st := topS 26) l15 c15 k15
  have F16 := fun_mk (st := topS 33) l16 c16 k16
  have F17 := fun_mk (st := topS 34) l17 c17 k17
  have F18 := fun_mk (st := topS 36) l18 c18 k18
  have F19 := fun_mk (st := topS 37) l19 c19 k19
  have F20 := fun_mk (st := topS 41) l20 c20 k20
  have G20 : FunD K "farthest_slide" "farthest_slide" (defArgs (topS 41)) (defBody (topS 41)) (defScope (topS 41)) [] [("x", V.int 0), ("y", V.int 0)] _ _ := ⟨⟨_, _, _, _, _, _, _, _, _, _, rfl, l20, c20, .inl ⟨rfl, rfl⟩, .inr ⟨_, rfl, fun q hq => by
    simp only [List.mem_cons, List.not_mem_nil, or_false] at hq
    rcases hq with rfl | rfl
    · exact ⟨_, e20_x, _, rfl⟩
    · exact ⟨_, e20_y, _, rfl⟩⟩⟩, k20⟩
  have F21 := fun_mk (st := topS 38) l21 c21 k21
  have G21 : FunD K "may_slide" "may_slide" (defArgs (topS 38)) (defBody (topS 38)) (defScope (topS 38)) [] [("x", V.int 0), ("y", V.int 0)] _ _ := ⟨⟨_, _, _, _, _, _, _, _, _, _, rfl, l21, c21, .inl ⟨rfl, rfl⟩, .inr ⟨_, rfl, fun q hq => by
    simp only [List.mem_cons, List.not_mem_nil, or_false] at hq
    rcases hq with rfl | rfl
    · exact ⟨_, e21_x, _, rfl⟩
    · exact ⟨_, e21_y, _, rfl⟩⟩⟩, k21⟩
  have F22 := fun_mk (st := topS 74) l22 c22 k22
  have F23 := fun_mk (st := topS 27) l23 c23 k23
  have F24 := fun_mk (st := topS 39) l24 c24 k24
  have F25 := fun_mk (st := topS 40) l25 c25 k25
  have F26 := fun_mk (st := topS 65) l26 c26 k26
  have F27 := fun_mk (st := topS 66) l27 c27 k27
  have F28 := fun_mk (st := topS 67) l28 c28 k28
  have F29 := fun_mk (st := topS 43) l29 c29 k29
  have F30 := fun_mk (st := topS 44) l30 c30 k30
  have F31 := fun_mk (st := topS 47) l31 c31 k31
  have F32 := fun_mk (st := topS 46) l32 c32 k32
  have F33 := fun_mk (st := topS 58) l33 c33 k33
  have F34 := fun_mk (st := topS 59) l34 c34 k34
  have F35 := funE_mk (st := topS 45) l35 c35 k35 g35
  have F36 := funE_mk (st := topS 48) l36 c36 k36 g36
  have F37 := fun_mk (st := topS 62) l37 c37 k37
  have F38 := fun_mk (st := topS 61) l38 c38 k38
  have F39 := fun_mk (st := topS 63) l39 c39 k39
  have F40 := fun_mk (st := topS 11) l40 c40 k40
  have F41 := fun_mk (st := topS 53) l41 c41 k41
  have F42 := fun_mk (st := topS 51) l42 c42 k42
  have F43 := fun_mk (st := topS 52) l43 c43 k43
  have F44 := fun_mk (st := topS 55) l44 c44 k44
  have F45 := fun_mk (st := topS 54) l45 c45 k45
  have F46 := fun_mk (st := topS 56) l46 c46 k46
  have G46 : FunD K "way" "way" (defArgs (topS 56)) (defBody (topS 56)) (defScope (topS 56)) [] [("price", V.int 1)] _ _ := ⟨⟨_, _, _, _, _, _, _, _, _, _, rfl, l46, c46, .inl ⟨rfl, rfl⟩, .inr ⟨_, rfl, fun q hq => by
    simp only [List.mem_cons, List.not_mem_nil, or_false] at hq
    rcases hq with rfl
    · exact ⟨_, e46_price, _, rfl⟩⟩⟩, k46⟩
  have F47 := fun_mk (st := topS 35) l47 c47 k47
  have F48 := fun_mk (st := topS 72) l48 c48 k48
  have F49 := fun_mk (st := topS 73) l49 c49 k49
  have F50 := fun_mk (st := topS 75) l50 c50 k50
  exact ⟨PySem.W.fnOf "law" "law" (defArgs (topS 75)) (defBody (topS 75)) (defScope (topS 75)) .none kV50 dc50 pm50 an50 cd50 ct50, fun s v => .of_eq rfl, fun base _ _ => ok_law' (T := {
    f__law_town := f0
    fd__law_town := _
    F__law_town := F0
    m__law_town := PySem.W.mg_of X G a0
    b__law_town := F0.binds fun _ _ _ _ _ _ us hl => match us, hl with | [_], _ => rfl
    f__law_draw := f1
    fd__law_draw := _
    F__law_draw := F1
    m__law_draw := PySem.W.mg_of X G a1
    b__law_draw := F1.binds fun _ _ _ _ _ _ us hl => match us, hl with | [_, _], _ => rfl
    f__law_refusal := f2
    fd__law_refusal := _
    F__law_refusal := F2
    m__law_refusal := PySem.W.mg_of X G a2
    b__law_refusal := F2.binds fun _ _ _ _ _ _ us hl => match us, hl with | [_], _ => rfl
    f_is_whole := f3
    fd_is_whole := _
    F_is_whole := F3
    m_is_whole := PySem.W.mg_of X G a3
    b_is_whole := F3.binds fun _ _ _ _ _ _ us hl => match us, hl with | [_, _, _], _ => rfl
    f_is_rect := f4
    fd_is_rect := _
    F_is_rect := F4
    m_is_rect := PySem.W.mg_of X G a4
    b_is_rect := F4.binds fun _ _ _ _ _ _ us hl => match us, hl with | [_, _, _], _ => rfl
    f_is_room := f5
    fd_is_room := _
    F_is_room := F5
    m_is_room := PySem.W.mg_of X G a5
    b_is_room := F5.binds fun _ _ _ _ _ _ us hl => match us, hl with | [_], _ => rfl
    f_look_room := f6
    fd_look_room := _
    F_look_room := F6
    m_look_room := PySem.W.mg_of X G a6
    b_look_room := F6.binds fun _ _ _ _ _ _ us hl => match us, hl with | [_], _ => rfl
    f_is_body := f7
    fd_is_body := _
    F_is_body := F7
    m_is_body := PySem.W.mg_of X G a7
    b_is_body := F7.binds fun _ _ _ _ _ _ us hl => match us, hl with | [_], _ => rfl
    f_look_body := f8
    fd_look_body := _
    F_look_body := F8
    m_look_body := PySem.W.mg_of X G a8
    b_look_body := F8.binds fun _ _ _ _ _ _ us hl => match us, hl with | [_], _ => rfl
    f_look_all := f9
    fd_look_all := _
    F_look_all := F9
    m_look_all := PySem.W.mg_of X G a9
    b_look_all := F9.binds fun _ _ _ _ _ _ us hl => match us, hl with | [_, _], _ => rfl
    f_is_standing := f10
    fd_is_standing := _
    F_is_standing := F10
    m_is_standing := PySem.W.mg_of X G a10
    b_is_standing := F10.binds fun _ _ _ _ _ _ us hl => match us, hl with | [_], _ => rfl
    f_look_standing := f11
    fd_look_standing := _
    F_look_standing := F11
    m_look_standing := PySem.W.mg_of X G a11
    b_look_standing := F11.binds fun _ _ _ _ _ _ us hl => match us, hl with | [_], _ => rfl
    f_overlap := f12
    fd_overlap := _
    F_overlap := F12
    m_overlap := PySem.W.mg_of X G a12
    b_overlap := F12.binds fun _ _ _ _ _ _ us hl => match us, hl with | [_, _], _ => rfl
    f_fits := f13
    fd_fits := _
    F_fits := F13
    m_fits := PySem.W.mg_of X G a13
    b_fits := F13.binds fun _ _ _ _ _ _ us hl => match us, hl with | [_, _], _ => rfl
    f_quarter := f14
    fd_quarter := _
    F_quarter := F14
    m_quarter := PySem.W.mg_of X G a14
    b_quarter := F14.binds fun _ _ _ _ _ _ us hl => match us, hl with | [_], _ => rfl
    f_turned_by := f15
    fd_turned_by := _
    F_turned_by := F15
    m_turned_by := PySem.W.mg_of X G a15
    b_turned_by := F15.binds fun _ _ _ _ _ _ us hl => match us, hl with | [_, _], _ => rfl
    f_placed := f16
    fd_placed := _
    F_placed := F16
    m_placed := PySem.W.mg_of X G a16
    b_placed := F16.binds fun _ _ _ _ _ _ us hl => match us, hl with | [_, _], _ => rfl
    f_stands := f17
    fd_stands := _
    F_stands := F17
    m_stands := PySem.W.mg_of X G a17
    b_stands := F17.binds fun _ _ _ _ _ _ us hl => match us, hl with | [_, _, _], _ => rfl
    f_look_free := f18
    fd_look_free := _
    F_look_free := F18
    m_look_free := PySem.W.mg_of X G a18
    b_look_free := F18.binds fun _ _ _ _ _ _ us hl => match us, hl with | [_, _, _], _ => rfl
    f_slides := f19
    fd_slides := _
    F_slides := F19
    m_slides := PySem.W.mg_of X G a19
    b_slides := F19.binds fun _ _ _ _ _ _ us hl => match us, hl with | [_, _, _, _, _], _ => rfl
    f_farthest_slide := f20
    fd_farthest_slide := _
    F_farthest_slide := F20
    m_farthest_slide := PySem.W.mg_of X G a20
    b_farthest_slide__x := kbo_of (ps := ["room", "body", "standing", "x", "y"]) G20 3 ["x"] .pkm [("y", 0)] (by simp) (by simp) fun _ _ _ _ _ _ us mv ws h1 h2 h3 => match us, mv, ws, h1, h2, h3 with | [_, _, _], [_], [_], _, _, _ => ⟨_, _, _, _, _, _, rfl, rfl, rfl⟩
    b_farthest_slide := kbn_all F20 fun _ _ _ _ _ _ us ws hu hw => match us, ws, hu, hw with | [_, _, _], [_, _], _, _ => rfl
    f_may_slide := f21
    fd_may_slide := _
    F_may_slide := F21
    m_may_slide := PySem.W.mg_of X G a21
    b_may_slide__ := FunD.binds0 (ps := ["room", "body", "standing", "x", "y"]) G21 3 (by simp) rfl fun _ _ _ _ _ _ us ks h1 h2 => match us, ks, h1, h2 with | [_, _, _], [_, _], _, _ => ⟨_, _, _, _, _, _, rfl, rfl, ⟨_, _, _, _, _, _, rfl, rfl, rfl⟩⟩
    b_may_slide := kbn_all F21 fun _ _ _ _ _ _ us ws hu hw => match us, ws, hu, hw with | [_, _, _], [_, _], _, _ => rfl
    f__law_slide := f22
    fd__law_slide := _
    F__law_slide := F22
    m__law_slide := PySem.W.mg_of X G a22
    b__law_slide := F22.binds fun _ _ _ _ _ _ us hl => match us, hl with | [_, _, _, _], _ => rfl
    f_frame_of := f23
    fd_frame_of := _
    F_frame_of := F23
    m_frame_of := PySem.W.mg_of X G a23
    b_frame_of := F23.binds fun _ _ _ _ _ _ us hl => match us, hl with | [_], _ => rfl
    f_turns_at := f24
    fd_turns_at := _
    F_turns_at := F24
    m_turns_at := PySem.W.mg_of X G a24
    b_turns_at := F24.binds fun _ _ _ _ _ _ us hl => match us, hl with | [_, _, _, _], _ => rfl
    f_may_turn := f25
    fd_may_turn := _
    F_may_turn := F25
    m_may_turn := PySem.W.mg_of X G a25
    b_may_turn := F25.binds fun _ _ _ _ _ _ us hl => match us, hl with | [_, _, _], _ => rfl
    f_gap_between := f26
    fd_gap_between := _
    F_gap_between := F26
    m_gap_between := PySem.W.mg_of X G a26
    b_gap_between := F26.binds fun _ _ _ _ _ _ us hl => match us, hl with | [_, _], _ => rfl
    f_room_at := f27
    fd_room_at := _
    F_room_at := F27
    m_room_at := PySem.W.mg_of X G a27
    b_room_at := F27.binds fun _ _ _ _ _ _ us hl => match us, hl with | [_, _, _], _ => rfl
    f_clearance := f28
    fd_clearance := _
    F_clearance := F28
    m_clearance := PySem.W.mg_of X G a28
    b_clearance := F28.binds fun _ _ _ _ _ _ us hl => match us, hl with | [_, _, _], _ => rfl
    f_edges_of := f29
    fd_edges_of := _
    F_edges_of := F29
    m_edges_of := PySem.W.mg_of X G a29
    b_edges_of := F29.binds fun _ _ _ _ _ _ us hl => match us, hl with | [_], _ => rfl
    f_lines_for := f30
    fd_lines_for := _
    F_lines_for := F30
    m_lines_for := PySem.W.mg_of X G a30
    b_lines_for := F30.binds fun _ _ _ _ _ _ us hl => match us, hl with | [_, _, _], _ => rfl
    f_next_to := f31
    fd_next_to := _
    F_next_to := F31
    m_next_to := PySem.W.mg_of X G a31
    b_next_to := F31.binds fun _ _ _ _ _ _ us hl => match us, hl with | [_, _], _ => rfl
    f_neighbours := f32
    fd_neighbours := _
    F_neighbours := F32
    m_neighbours := PySem.W.mg_of X G a32
    b_neighbours := F32.binds fun _ _ _ _ _ _ us hl => match us, hl with | [_, _, _, _, _], _ => rfl
    f_come_to := f33
    fd_come_to := _
    F_come_to := F33
    m_come_to := PySem.W.mg_of X G a33
    b_come_to := F33.binds fun _ _ _ _ _ _ us hl => match us, hl with | [_, _, _, _], _ => rfl
    f_reach := f34
    fd_reach := _
    F_reach := F34
    m_reach := PySem.W.mg_of X G a34
    b_reach := F34.binds fun _ _ _ _ _ _ us hl => match us, hl with | [_, _, _], _ => rfl
    e0_lines := E35
    e_lines := kt0_mk h35
    f_lines := f35
    fd_lines := _
    F_lines := F35
    m_lines := PySem.W.mg_of X G a35
    b_lines := binds_nil (FunD.binds1 (ps := ["room", "body", "extra"]) F35 3 1 (fun z => nomatch z) rfl fun _ _ _ _ _ _ _ us its h1 h2 => match us, its, h1, h2 with | [_, _, _], [_], _, _ => ⟨_, rfl, rfl⟩)
    bd_lines := FunD.binds1 (ps := ["room", "body", "extra"]) F35 2 0 (fun z => nomatch z) rfl fun _ _ _ _ _ _ _ us its h1 h2 => match us, its, h1, h2 with | [_, _], [_], _, _ => ⟨_, rfl, rfl⟩
    e0_corners := E36
    e_corners := kt0_mk h36
    f_corners := f36
    fd_corners := _
    F_corners := F36
    m_corners := PySem.W.mg_of X G a36
    b_corners := binds_nil (FunD.binds1 (ps := ["room", "body", "extra"]) F36 3 1 (fun z => nomatch z) rfl fun _ _ _ _ _ _ _ us its h1 h2 => match us, its, h1, h2 with | [_, _, _], [_], _, _ => ⟨_, rfl, rfl⟩)
    bd_corners := FunD.binds1 (ps := ["room", "body", "extra"]) F36 2 0 (fun z => nomatch z) rfl fun _ _ _ _ _ _ _ us its h1 h2 => match us, its, h1, h2 with | [_, _], [_], _, _ => ⟨_, rfl, rfl⟩
    f_parts_of := f37
    fd_parts_of := _
    F_parts_of := F37
    m_parts_of := PySem.W.mg_of X G a37
    b_parts_of := F37.binds fun _ _ _ _ _ _ us hl => match us, hl with | [_, _], _ => rfl
    f_parts := f38
    fd_parts := _
    F_parts := F38
    m_parts := PySem.W.mg_of X G a38
    b_parts := F38.binds fun _ _ _ _ _ _ us hl => match us, hl with | [_, _], _ => rfl
    f_part_of := f39
    fd_part_of := _
    F_part_of := F39
    m_part_of := PySem.W.mg_of X G a39
    b_part_of := F39.binds fun _ _ _ _ _ _ us hl => match us, hl with | [_, _, _], _ => rfl
    f_look_number := f40
    fd_look_number := _
    F_look_number := F40
    m_look_number := PySem.W.mg_of X G a40
    b_look_number := F40.binds fun _ _ _ _ _ _ us hl => match us, hl with | [_, _, _], _ => rfl
    f_led_back := f41
    fd_led_back := _
    F_led_back := F41
    m_led_back := PySem.W.mg_of X G a41
    b_led_back := F41.binds fun _ _ _ _ _ _ us hl => match us, hl with | [_, _], _ => rfl
    f_length_of := f42
    fd_length_of := _
    F_length_of := F42
    m_length_of := PySem.W.mg_of X G a42
    b_length_of := F42.binds fun _ _ _ _ _ _ us hl => match us, hl with | [_, _, _], _ => rfl
    f_sought := f43
    fd_sought := _
    F_sought := F43
    m_sought := PySem.W.mg_of X G a43
    b_sought := F43.binds fun _ _ _ _ _ _ us hl => match us, hl with | [_, _, _, _, _], _ => rfl
    f_is_straight := f44
    fd_is_straight := _
    F_is_straight := F44
    m_is_straight := PySem.W.mg_of X G a44
    b_is_straight := F44.binds fun _ _ _ _ _ _ us hl => match us, hl with | [_, _, _], _ => rfl
    f_shortened := f45
    fd_shortened := _
    F_shortened := F45
    m_shortened := PySem.W.mg_of X G a45
    b_shortened := F45.binds fun _ _ _ _ _ _ us hl => match us, hl with | [_], _ => rfl
    f_way := f46
    fd_way := _
    F_way := F46
    m_way := PySem.W.mg_of X G a46
    b_way__ := FunD.binds0 (ps := ["room", "body", "start", "goal", "price"]) G46 4 (by simp) rfl fun _ _ _ _ _ _ us ks h1 h2 => match us, ks, h1, h2 with | [_, _, _, _], [_], _, _ => ⟨_, _, _, _, _, _, rfl, rfl, rfl⟩
    f_is_free := f47
    fd_is_free := _
    F_is_free := F47
    m_is_free := PySem.W.mg_of X G a47
    b_is_free := F47.binds fun _ _ _ _ _ _ us hl => match us, hl with | [_, _, _], _ => rfl
    f__law_does := f48
    fd__law_does := _
    F__law_does := F48
    m__law_does := PySem.W.mg_of X G a48
    b__law_does := F48.binds fun _ _ _ _ _ _ us hl => match us, hl with | [_, _, _, _], _ => rfl
    f__law_asked := f49
    fd__law_asked := _
    F__law_asked := F49
    m__law_asked := PySem.W.mg_of X G a49
    b__law_asked := F49.binds fun _ _ _ _ _ _ us hl => match us, hl with | [_, _, _, _], _ => rfl
    f_law := fa
    fd_law := _
    F_law := F50
    m_law := PySem.W.mg_of X G a50
    b_law := F50.binds fun _ _ _ _ _ _ us hl => match us, hl with | [_], _ => rfl
    z_ValueError := PySem.W.mg_none_of X G z0
    z_abs := PySem.W.mg_none_of X G z1
    z_all := PySem.W.mg_none_of X G z2
    z_any := PySem.W.mg_none_of X G z3
    z_bool := PySem.W.mg_none_of X G z4
    z_int := PySem.W.mg_none_of X G z5
    z_isinstance := PySem.W.mg_none_of X G z6
    z_len := PySem.W.mg_none_of X G z7
    z_list := PySem.W.mg_none_of X G z8
    z_max := PySem.W.mg_none_of X G z9
    z_min := PySem.W.mg_none_of X G z10
    z_range := PySem.W.mg_none_of X G z11
    z_set := PySem.W.mg_none_of X G z12
    z_sorted := PySem.W.mg_none_of X G z13
    z_tuple := PySem.W.mg_none_of X G z14
    k_FAR := t0
    c_FAR := PySem.W.mg_of X G n0
    k_MOST_BLOCKS := t1
    c_MOST_BLOCKS := PySem.W.mg_of X G n1
    k_MOST_PRICE := t2
    c_MOST_PRICE := PySem.W.mg_of X G n2
    k_MOST_RECTS := t3
    c_MOST_RECTS := PySem.W.mg_of X G n3
    k_MOST_bodies := t4
    c_MOST_bodies := PySem.W.mg_of X G n4
    k_MOST_rooms := t5
    c_MOST_rooms := PySem.W.mg_of X G n5
    A_BadNumber := A_BadNumber
    C_BadNumber := ⟨PySem.W.mg_of X G g_BadNumber⟩
    A_BadRoom := A_BadRoom
    C_BadRoom := ⟨PySem.W.mg_of X G g_BadRoom⟩
    A_BadBody := A_BadBody
    C_BadBody := ⟨PySem.W.mg_of X G g_BadBody⟩
    A_BadStanding := A_BadStanding
    C_BadStanding := ⟨PySem.W.mg_of X G g_BadStanding⟩
    A_NotFree := A_NotFree
    C_NotFree := ⟨PySem.W.mg_of X G g_NotFree⟩
    A_BadWay := A_BadWay
    C_BadWay := ⟨PySem.W.mg_of X G g_BadWay⟩
    A_BadText := A_BadText
    C_BadText := ⟨PySem.W.mg_of X G g_BadText⟩
    A_NoDeed := A_NoDeed
    C_NoDeed := ⟨PySem.W.mg_of X G g_NoDeed⟩
    A_WayError := A_WayError
    C_WayError := ⟨PySem.W.mg_of X G g_WayError⟩
    X_BadNumber := ⟨PySem.W.mg_of X G g_BadNumber, x_BadNumber, k_BadNumber, b_BadNumber, t_BadNumber⟩
    E_BadNumber := ⟨hg_BadNumber, hk_BadNumber, b_BadNumber, hd_BadNumber, ha_BadNumber, hn_, ht_, hm_BadNumber⟩
    w_BadNumber := PySem.W.exm_ref b_WayError hd_WayError t_WayError s_BadNumber_WayError
    n_BadNumber := PySem.W.exm_ref b_NotFree hd_NotFree t_NotFree s_BadNumber_NotFree
    k_BadNumber_BadNumber := kit_ref hd_BadNumber t_BadNumber s_BadNumber_BadNumber s_BadNumber_BadNumber
    k_BadNumber_BadRoom := kit_ref hd_BadRoom t_BadRoom s_BadNumber_BadNumber s_BadNumber_BadRoom
    k_BadNumber_BadBody := kit_ref hd_BadBody t_BadBody s_BadNumber_BadNumber s_BadNumber_BadBody
    k_BadNumber_BadStanding := kit_ref hd_BadStanding t_BadStanding s_BadNumber_BadNumber s_BadNumber_BadStanding
    k_BadNumber_NotFree := kit_ref hd_NotFree t_NotFree s_BadNumber_BadNumber s_BadNumber_NotFree
    k_BadNumber_BadWay := kit_ref hd_BadWay t_BadWay s_BadNumber_BadNumber s_BadNumber_BadWay
    k_BadNumber_BadText := kit_ref hd_BadText t_BadText s_BadNumber_BadNumber s_BadNumber_BadText
    k_BadNumber_NoDeed := kit_ref hd_NoDeed t_NoDeed s_BadNumber_BadNumber s_BadNumber_NoDeed
    k_BadNumber_WayError := kit_ref hd_WayError t_WayError s_BadNumber_BadNumber s_BadNumber_WayError
    k_BadNumber_ValueError := kit_tyV (by decide +kernel) s_BadNumber_ValueError
    X_BadRoom := ⟨PySem.W.mg_of X G g_BadRoom, x_BadRoom, k_BadRoom, b_BadRoom, t_BadRoom⟩
    E_BadRoom := ⟨hg_BadRoom, hk_BadRoom, b_BadRoom, hd_BadRoom, ha_BadRoom, hn_, ht_, hm_BadRoom⟩
    w_BadRoom := PySem.W.exm_ref b_WayError hd_WayError t_WayError s_BadRoom_WayError
    n_BadRoom := PySem.W.exm_ref b_NotFree hd_NotFree t_NotFree s_BadRoom_NotFree
    k_BadRoom_BadNumber := kit_ref hd_BadNumber t_BadNumber s_BadRoom_BadRoom s_BadRoom_BadNumber
    k_BadRoom_BadRoom := kit_ref hd_BadRoom t_BadRoom s_BadRoom_BadRoom s_BadRoom_BadRoom
    k_BadRoom_BadBody := kit_ref hd_BadBody t_BadBody s_BadRoom_BadRoom s_BadRoom_BadBody
    k_BadRoom_BadStanding := kit_ref hd_BadStanding t_BadStanding s_BadRoom_BadRoom s_BadRoom_BadStanding
    k_BadRoom_NotFree := kit_ref hd_NotFree t_NotFree s_BadRoom_BadRoom s_BadRoom_NotFree
    k_BadRoom_BadWay := kit_ref hd_BadWay t_BadWay s_BadRoom_BadRoom s_BadRoom_BadWay
    k_BadRoom_BadText := kit_ref hd_BadText t_BadText s_BadRoom_BadRoom s_BadRoom_BadText
    k_BadRoom_NoDeed := kit_ref hd_NoDeed t_NoDeed s_BadRoom_BadRoom s_BadRoom_NoDeed
    k_BadRoom_WayError := kit_ref hd_WayError t_WayError s_BadRoom_BadRoom s_BadRoom_WayError
    k_BadRoom_ValueError := kit_tyV (by decide +kernel) s_BadRoom_ValueError
    X_BadBody := ⟨PySem.W.mg_of X G g_BadBody, x_BadBody, k_BadBody, b_BadBody, t_BadBody⟩
    E_BadBody := ⟨hg_BadBody, hk_BadBody, b_BadBody, hd_BadBody, ha_BadBody, hn_, ht_, hm_BadBody⟩
    w_BadBody := PySem.W.exm_ref b_WayError hd_WayError t_WayError s_BadBody_WayError
    n_BadBody := PySem.W.exm_ref b_NotFree hd_NotFree t_NotFree s_BadBody_NotFree
    k_BadBody_BadNumber := kit_ref hd_BadNumber t_BadNumber s_BadBody_BadBody s_BadBody_BadNumber
    k_BadBody_BadRoom := kit_ref hd_BadRoom t_BadRoom s_BadBody_BadBody s_BadBody_BadRoom
    k_BadBody_BadBody := kit_ref hd_BadBody t_BadBody s_BadBody_BadBody s_BadBody_BadBody
    k_BadBody_BadStanding := kit_ref hd_BadStanding t_BadStanding s_BadBody_BadBody s_BadBody_BadStanding
    k_BadBody_NotFree := kit_ref hd_NotFree t_NotFree s_BadBody_BadBody s_BadBody_NotFree
    k_BadBody_BadWay := kit_ref hd_BadWay t_BadWay s_BadBody_BadBody s_BadBody_BadWay
    k_BadBody_BadText := kit_ref hd_BadText t_BadText s_BadBody_BadBody s_BadBody_BadText
    k_BadBody_NoDeed := kit_ref hd_NoDeed t_NoDeed s_BadBody_BadBody s_BadBody_NoDeed
    k_BadBody_WayError := kit_ref hd_WayError t_WayError s_BadBody_BadBody s_BadBody_WayError
    k_BadBody_ValueError := kit_tyV (by decide +kernel) s_BadBody_ValueError
    X_BadStanding := ⟨PySem.W.mg_of X G g_BadStanding, x_BadStanding, k_BadStanding, b_BadStanding, t_BadStanding⟩
    E_BadStanding := ⟨hg_BadStanding, hk_BadStanding, b_BadStanding, hd_BadStanding, ha_BadStanding, hn_, ht_, hm_BadStanding⟩
    w_BadStanding := PySem.W.exm_ref b_WayError hd_WayError t_WayError s_BadStanding_WayError
    n_BadStanding := PySem.W.exm_ref b_NotFree hd_NotFree t_NotFree s_BadStanding_NotFree
    k_BadStanding_BadNumber := kit_ref hd_BadNumber t_BadNumber s_BadStanding_BadStanding s_BadStanding_BadNumber
    k_BadStanding_BadRoom := kit_ref hd_BadRoom t_BadRoom s_BadStanding_BadStanding s_BadStanding_BadRoom
    k_BadStanding_BadBody := kit_ref hd_BadBody t_BadBody s_BadStanding_BadStanding s_BadStanding_BadBody
    k_BadStanding_BadStanding := kit_ref hd_BadStanding t_BadStanding s_BadStanding_BadStanding s_BadStanding_BadStanding
    k_BadStanding_NotFree := kit_ref hd_NotFree t_NotFree s_BadStanding_BadStanding s_BadStanding_NotFree
    k_BadStanding_BadWay := kit_ref hd_BadWay t_BadWay s_BadStanding_BadStanding s_BadStanding_BadWay
    k_BadStanding_BadText := kit_ref hd_BadText t_BadText s_BadStanding_BadStanding s_BadStanding_BadText
    k_BadStanding_NoDeed := kit_ref hd_NoDeed t_NoDeed s_BadStanding_BadStanding s_BadStanding_NoDeed
    k_BadStanding_WayError := kit_ref hd_WayError t_WayError s_BadStanding_BadStanding s_BadStanding_WayError
    k_BadStanding_ValueError := kit_tyV (by decide +kernel) s_BadStanding_ValueError
    f_ini := fI
    fd_ini := _
    Y_NotFree := ⟨⟨⟨_, _, _, _, _, _, _, _, _, _, _, _, _, _, _, lN, rN⟩, saN, b_NotFree, t_NotFree, k_NotFree⟩, PySem.W.mg_of X G g_NotFree, iN, tI, fN⟩
    F_ini := fun_mk (st := iniS 6) lI cI kI
    b_ini := (fun_mk (st := iniS 6) lI cI kI).binds fun _ _ _ _ _ _ us hl => match us, hl with | [_, _], _ => rfl
    E_NotFree := ⟨hg_NotFree, hk_NotFree, b_NotFree, hd_NotFree, ha_NotFree, hn_, ht_, hm_NotFree⟩
    w_NotFree := PySem.W.exm_ref b_WayError hd_WayError t_WayError s_NotFree_WayError
    n_NotFree := PySem.W.exm_ref b_NotFree hd_NotFree t_NotFree s_NotFree_NotFree
    k_NotFree_BadNumber := kit_ref hd_BadNumber t_BadNumber s_NotFree_NotFree s_NotFree_BadNumber
    k_NotFree_BadRoom := kit_ref hd_BadRoom t_BadRoom s_NotFree_NotFree s_NotFree_BadRoom
    k_NotFree_BadBody := kit_ref hd_BadBody t_BadBody s_NotFree_NotFree s_NotFree_BadBody
    k_NotFree_BadStanding := kit_ref hd_BadStanding t_BadStanding s_NotFree_NotFree s_NotFree_BadStanding
    k_NotFree_NotFree := kit_ref hd_NotFree t_NotFree s_NotFree_NotFree s_NotFree_NotFree
    k_NotFree_BadWay := kit_ref hd_BadWay t_BadWay s_NotFree_NotFree s_NotFree_BadWay
    k_NotFree_BadText := kit_ref hd_BadText t_BadText s_NotFree_NotFree s_NotFree_BadText
    k_NotFree_NoDeed := kit_ref hd_NoDeed t_NoDeed s_NotFree_NotFree s_NotFree_NoDeed
    k_NotFree_WayError := kit_ref hd_WayError t_WayError s_NotFree_NotFree s_NotFree_WayError
    k_NotFree_ValueError := kit_tyV (by decide +kernel) s_NotFree_ValueError }) ok⟩

end Fx
-- k05h
namespace Fx
end Fx
open PySem PySem.W PyProof.Rows
set_option maxHeartbeats 0 in
theorem PySem.Challenge.cw_moveways_k05_standings_refused_holds : PySem.Challenge.rw_moveways_k05_standings_refused.Holds := by
  w_on; o_law; k_head; (case hw => w_witness2)
  k_fill
  refine L2.walk_of (l := PySem.Challenge.rw_moveways_k05_standings_refused) (n := 63) (k := 12) (x := "script") (CX := fun _ => L2.CX0) (sp := fun w => Fx.spLaw _) rfl (by decide) rfl ⟨rfl, by decide, by decide⟩ (fun w h Y => PySem.W.kIn_of Y) ?F (fun _ _ a ns hl _ hS => ⟨a, ns, rfl, hS, hl, fun _ => rfl⟩) (fun _ _ _ _ _ h => h)
  case F =>
    intro w mg fa h KX G hmg
    refine' Fx.all_mk KX G hmg Fx.law_true ?a0 ?l0 ?c0 ?k0 ?a1 ?l1 ?c1 ?k1 ?a2 ?l2 ?c2 ?k2 ?a3 ?l3 ?c3 ?k3 ?a4 ?l4 ?c4 ?k4 ?a5 ?l5 ?c5 ?k5 ?a6 ?l6 ?c6 ?k6 ?a7 ?l7 ?c7 ?k7 ?a8 ?l8 ?c8 ?k8 ?a9 ?l9 ?c9 ?k9 ?a10 ?l10 ?c10 ?k10 ?a11 ?l11 ?c11 ?k11 ?a12 ?l12 ?c12 ?k12 ?a13 ?l13 ?c13 ?k13 ?a14 ?l14 ?c14 ?k14 ?a15 ?l15 ?c15 ?k15 ?a16 ?l16 ?c16 ?k16 ?a17 ?l17 ?c17 ?k17 ?a18 ?l18 ?c18 ?k18 ?a19 ?l19 ?c19 ?k19 ?a20 ?l20 ?c20 ?k20 ?e20_x ?e20_y ?a21 ?l21 ?c21 ?k21 ?e21_x ?e21_y ?a22 ?l22 ?c22 ?k22 ?a23 ?l23 ?c23 ?k23 ?a24 ?l24 ?c24 ?k24 ?a25 ?l25 ?c25 ?k25 ?a26 ?l26 ?c26 ?k26 ?a27 ?l27 ?c27 ?k27 ?a28 ?l28 ?c28 ?k28 ?a29 ?l29 ?c29 ?k29 ?a30 ?l30 ?c30 ?k30 ?a31 ?l31 ?c31 ?k31 ?a32 ?l32 ?c32 ?k32 ?a33 ?l33 ?c33 ?k33 ?a34 ?l34 ?c34 ?k34 ?a35 ?l35 ?c35 ?k35 ?g35 ?h35 ?a36 ?l36 ?c36 ?k36 ?g36 ?h36 ?a37 ?l37 ?c37 ?k37 ?a38 ?l38 ?c38 ?k38 ?a39 ?l39 ?c39 ?k39 ?a40 ?l40 ?c40 ?k40 ?a41 ?l41 ?c41 ?k41 ?a42 ?l42 ?c42 ?k42 ?a43 ?l43 ?c43 ?k43 ?a44 ?l44 ?c44 ?k44 ?a45 ?l45 ?c45 ?k45 ?a46 ?l46 ?c46 ?k46 ?e46_price ?a47 ?l47 ?c47 ?k47 ?a48 ?l48 ?c48 ?k48 ?a49 ?l49 ?c49 ?k49 ?a50 ?l50 ?c50 ?k50 ?z0 ?z1 ?z2 ?z3 ?z4 ?z5 ?z6 ?z7 ?z8 ?z9 ?z10 ?z11 ?z12 ?z13 ?z14 ?n0 ?n1 ?n2 ?n3 ?n4 ?n5 ?g_BadNumber ?b_BadNumber ?t_BadNumber ?hd_BadNumber ?g_BadRoom ?b_BadRoom ?t_BadRoom ?hd_BadRoom ?g_BadBody ?b_BadBody ?t_BadBody ?hd_BadBody ?g_BadStanding ?b_BadStanding ?t_BadStanding ?hd_BadStanding ?g_NotFree ?b_NotFree ?t_NotFree ?hd_NotFree ?g_BadWay ?b_BadWay ?t_BadWay ?hd_BadWay ?g_BadText ?b_BadText ?t_BadText ?hd_BadText ?g_NoDeed ?b_NoDeed ?t_NoDeed ?hd_NoDeed ?g_WayError ?b_WayError ?t_WayError ?hd_WayError ?x_BadNumber ?k_BadNumber ?hg_BadNumber ?hk_BadNumber ?ha_BadNumber ?hm_BadNumber ?s_BadNumber_BadNumber ?s_BadNumber_BadRoom ?s_BadNumber_BadBody ?s_BadNumber_BadStanding ?s_BadNumber_NotFree ?s_BadNumber_BadWay ?s_BadNumber_BadText ?s_BadNumber_NoDeed ?s_BadNumber_WayError ?s_BadNumber_ValueError ?x_BadRoom ?k_BadRoom ?hg_BadRoom ?hk_BadRoom ?ha_BadRoom ?hm_BadRoom ?s_BadRoom_BadNumber ?s_BadRoom_BadRoom ?s_BadRoom_BadBody ?s_BadRoom_BadStanding ?s_BadRoom_NotFree ?s_BadRoom_BadWay ?s_BadRoom_BadText ?s_BadRoom_NoDeed ?s_BadRoom_WayError ?s_BadRoom_ValueError ?x_BadBody ?k_BadBody ?hg_BadBody ?hk_BadBody ?ha_BadBody ?hm_BadBody ?s_BadBody_BadNumber ?s_BadBody_BadRoom ?s_BadBody_BadBody ?s_BadBody_BadStanding ?s_BadBody_NotFree ?s_BadBody_BadWay ?s_BadBody_BadText ?s_BadBody_NoDeed ?s_BadBody_WayError ?s_BadBody_ValueError ?x_BadStanding ?k_BadStanding ?hg_BadStanding ?hk_BadStanding ?ha_BadStanding ?hm_BadStanding ?s_BadStanding_BadNumber ?s_BadStanding_BadRoom ?s_BadStanding_BadBody ?s_BadStanding_BadStanding ?s_BadStanding_NotFree ?s_BadStanding_BadWay ?s_BadStanding_BadText ?s_BadStanding_NoDeed ?s_BadStanding_WayError ?s_BadStanding_ValueError ?k_NotFree ?hg_NotFree ?hk_NotFree ?ha_NotFree ?hm_NotFree ?s_NotFree_BadNumber ?s_NotFree_BadRoom ?s_NotFree_BadBody ?s_NotFree_BadStanding ?s_NotFree_NotFree ?s_NotFree_BadWay ?s_NotFree_BadText ?s_NotFree_NoDeed ?s_NotFree_WayError ?s_NotFree_ValueError ?lN ?rN ?saN ?iN ?tI ?fN ?lI ?cI ?kI ?hn_ ?ht_
    (case a0 => k_is); (case l0 => k_is); (case c0 => k_is); (case k0 => k_is); (case a1 => k_is); (case l1 => k_is); (case c1 => k_is); (case k1 => k_is); (case a2 => k_is); (case l2 => k_is); (case c2 => k_is); (case k2 => k_is); (case a3 => k_is); (case l3 => k_is); (case c3 => k_is); (case k3 => k_is); (case a4 => k_is); (case l4 => k_is); (case c4 => k_is); (case k4 => k_is); (case a5 => k_is); (case l5 => k_is); (case c5 => k_is); (case k5 => k_is); (case a6 => k_is); (case l6 => k_is); (case c6 => k_is); (case k6 => k_is); (case a7 => k_is); (case l7 => k_is); (case c7 => k_is); (case k7 => k_is); (case a8 => k_is); (case l8 => k_is); (case c8 => k_is); (case k8 => k_is); (case a9 => k_is); (case l9 => k_is); (case c9 => k_is); (case k9 => k_is); (case a10 => k_is); (case l10 => k_is); (case c10 => k_is); (case k10 => k_is); (case a11 => k_is); (case l11 => k_is); (case c11 => k_is); (case k11 => k_is); (case a12 => k_is); (case l12 => k_is); (case c12 => k_is); (case k12 => k_is); (case a13 => k_is); (case l13 => k_is); (case c13 => k_is); (case k13 => k_is); (case a14 => k_is); (case l14 => k_is); (case c14 => k_is); (case k14 => k_is); (case a15 => k_is); (case l15 => k_is); (case c15 => k_is); (case k15 => k_is); (case a16 => k_is); (case l16 => k_is); (case c16 => k_is); (case k16 => k_is); (case a17 => k_is); (case l17 => k_is); (case c17 => k_is); (case k17 => k_is); (case a18 => k_is); (case l18 => k_is); (case c18 => k_is); (case k18 => k_is); (case a19 => k_is); (case l19 => k_is); (case c19 => k_is); (case k19 => k_is); (case a20 => k_is); (case l20 => k_is); (case c20 => k_is); (case k20 => k_is); (case e20_x => k_is); (case e20_y => k_is); (case a21 => k_is); (case l21 => k_is); (case c21 => k_is); (case k21 => k_is); (case e21_x => k_is); (case e21_y => k_is); (case a22 => k_is); (case l22 => k_is); (case c22 => k_is); (case k22 => k_is); (case a23 => k_is); (case l23 => k_is); (case c23 => k_is); (case k23 => k_is); (case a24 => k_is); (case l24 => k_is); (case c24 => k_is); (case k24 => k_is); (case a25 => k_is); (case l25 => k_is); (case c25 => k_is); (case k25 => k_is); (case a26 => k_is); (case l26 => k_is); (case c26 => k_is); (case k26 => k_is); (case a27 => k_is); (case l27 => k_is); (case c27 => k_is); (case k27 => k_is); (case a28 => k_is); (case l28 => k_is); (case c28 => k_is); (case k28 => k_is); (case a29 => k_is); (case l29 => k_is); (case c29 => k_is); (case k29 => k_is); (case a30 => k_is); (case l30 => k_is); (case c30 => k_is); (case k30 => k_is); (case a31 => k_is); (case l31 => k_is); (case c31 => k_is); (case k31 => k_is); (case a32 => k_is); (case l32 => k_is); (case c32 => k_is); (case k32 => k_is); (case a33 => k_is); (case l33 => k_is); (case c33 => k_is); (case k33 => k_is); (case a34 => k_is); (case l34 => k_is); (case c34 => k_is); (case k34 => k_is); (case a35 => k_is); (case l35 => k_is); (case c35 => k_is); (case k35 => k_is); (case g35 => k_is); (case h35 => k_is); (case a36 => k_is); (case l36 => k_is); (case c36 => k_is); (case k36 => k_is); (case g36 => k_is); (case h36 => k_is); (case a37 => k_is); (case l37 => k_is); (case c37 => k_is); (case k37 => k_is); (case a38 => k_is); (case l38 => k_is); (case c38 => k_is); (case k38 => k_is); (case a39 => k_is); (case l39 => k_is); (case c39 => k_is); (case k39 => k_is); (case a40 => k_is); (case l40 => k_is); (case c40 => k_is); (case k40 => k_is); (case a41 => k_is); (case l41 => k_is); (case c41 => k_is); (case k41 => k_is); (case a42 => k_is); (case l42 => k_is); (case c42 => k_is); (case k42 => k_is); (case a43 => k_is); (case l43 => k_is); (case c43 => k_is); (case k43 => k_is); (case a44 => k_is); (case l44 => k_is); (case c44 => k_is); (case k44 => k_is); (case a45 => k_is); (case l45 => k_is); (case c45 => k_is); (case k45 => k_is); (case a46 => k_is); (case l46 => k_is); (case c46 => k_is); (case k46 => k_is); (case e46_price => k_is); (case a47 => k_is); (case l47 => k_is); (case c47 => k_is); (case k47 => k_is); (case a48 => k_is); (case l48 => k_is); (case c48 => k_is); (case k48 => k_is); (case a49 => k_is); (case l49 => k_is); (case c49 => k_is); (case k49 => k_is); (case a50 => k_is); (case l50 => k_is); (case c50 => k_is); (case k50 => k_is); (case z0 => k_is); (case z1 => k_is); (case z2 => k_is); (case z3 => k_is); (case z4 => k_is); (case z5 => k_is); (case z6 => k_is); (case z7 => k_is); (case z8 => k_is); (case z9 => k_is); (case z10 => k_is); (case z11 => k_is); (case z12 => k_is); (case z13 => k_is); (case z14 => k_is); (case n0 => k_is); (case n1 => k_is); (case n2 => k_is); (case n3 => k_is); (case n4 => k_is); (case n5 => k_is); (case g_BadNumber => k_is); (case b_BadNumber => k_is); (case t_BadNumber => k_is); (case hd_BadNumber => k_is); (case g_BadRoom => k_is); (case b_BadRoom => k_is); (case t_BadRoom => k_is); (case hd_BadRoom => k_is); (case g_BadBody => k_is); (case b_BadBody => k_is); (case t_BadBody => k_is); (case hd_BadBody => k_is); (case g_BadStanding => k_is); (case b_BadStanding => k_is); (case t_BadStanding => k_is); (case hd_BadStanding => k_is); (case g_NotFree => k_is); (case b_NotFree => k_is); (case t_NotFree => k_is); (case hd_NotFree => k_is); (case g_BadWay => k_is); (case b_BadWay => k_is); (case t_BadWay => k_is); (case hd_BadWay => k_is); (case g_BadText => k_is); (case b_BadText => k_is); (case t_BadText => k_is); (case hd_BadText => k_is); (case g_NoDeed => k_is); (case b_NoDeed => k_is); (case t_NoDeed => k_is); (case hd_NoDeed => k_is); (case g_WayError => k_is); (case b_WayError => k_is); (case t_WayError => k_is); (case hd_WayError => k_is); (case x_BadNumber => k_exc); (case k_BadNumber => k_is); (case hg_BadNumber => k_is); (case hk_BadNumber => k_is); (case ha_BadNumber => k_is); (case hm_BadNumber => k_is); (case s_BadNumber_BadNumber => k_is); (case s_BadNumber_BadRoom => k_is); (case s_BadNumber_BadBody => k_is); (case s_BadNumber_BadStanding => k_is); (case s_BadNumber_NotFree => k_is); (case s_BadNumber_BadWay => k_is); (case s_BadNumber_BadText => k_is); (case s_BadNumber_NoDeed => k_is); (case s_BadNumber_WayError => k_is); (case s_BadNumber_ValueError => k_is); (case x_BadRoom => k_exc); (case k_BadRoom => k_is); (case hg_BadRoom => k_is); (case hk_BadRoom => k_is); (case ha_BadRoom => k_is); (case hm_BadRoom => k_is); (case s_BadRoom_BadNumber => k_is); (case s_BadRoom_BadRoom => k_is); (case s_BadRoom_BadBody => k_is); (case s_BadRoom_BadStanding => k_is); (case s_BadRoom_NotFree => k_is); (case s_BadRoom_BadWay => k_is); (case s_BadRoom_BadText => k_is); (case s_BadRoom_NoDeed => k_is); (case s_BadRoom_WayError => k_is); (case s_BadRoom_ValueError => k_is); (case x_BadBody => k_exc); (case k_BadBody => k_is); (case hg_BadBody => k_is); (case hk_BadBody => k_is); (case ha_BadBody => k_is); (case hm_BadBody => k_is); (case s_BadBody_BadNumber => k_is); (case s_BadBody_BadRoom => k_is); (case s_BadBody_BadBody => k_is); (case s_BadBody_BadStanding => k_is); (case s_BadBody_NotFree => k_is); (case s_BadBody_BadWay => k_is); (case s_BadBody_BadText => k_is); (case s_BadBody_NoDeed => k_is); (case s_BadBody_WayError => k_is); (case s_BadBody_ValueError => k_is); (case x_BadStanding => k_exc); (case k_BadStanding => k_is); (case hg_BadStanding => k_is); (case hk_BadStanding => k_is); (case ha_BadStanding => k_is); (case hm_BadStanding => k_is); (case s_BadStanding_BadNumber => k_is); (case s_BadStanding_BadRoom => k_is); (case s_BadStanding_BadBody => k_is); (case s_BadStanding_BadStanding => k_is); (case s_BadStanding_NotFree => k_is); (case s_BadStanding_BadWay => k_is); (case s_BadStanding_BadText => k_is); (case s_BadStanding_NoDeed => k_is); (case s_BadStanding_WayError => k_is); (case s_BadStanding_ValueError => k_is); (case k_NotFree => k_is); (case hg_NotFree => k_is); (case hk_NotFree => k_is); (case ha_NotFree => k_is); (case hm_NotFree => k_is); (case s_NotFree_BadNumber => k_is); (case s_NotFree_BadRoom => k_is); (case s_NotFree_BadBody => k_is); (case s_NotFree_BadStanding => k_is); (case s_NotFree_NotFree => k_is); (case s_NotFree_BadWay => k_is); (case s_NotFree_BadText => k_is); (case s_NotFree_NoDeed => k_is); (case s_NotFree_WayError => k_is); (case s_NotFree_ValueError => k_is); (case lN => k_is); (case rN => rfl); (case saN => k_is); (case iN => k_is); (case tI => k_is); (case fN => k_is); (case lI => k_is); (case cI => k_is); (case kI => k_is); (case hn_ => k_is); (case ht_ => k_is)
