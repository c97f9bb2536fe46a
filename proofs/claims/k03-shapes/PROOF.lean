import PyProof.Rows.All
import Wide.All
import OpenK.AllK
import Wide.FinOn
import HandS.ForMost
import HandS.Exc
import HandS.Lambda
import KE.SortData
import HandS.Deep
import HandS.SortInts
import HandS.Style
import HandS.TupAny
import HandS.Wide
import HandS.WideBits
import HandS.IsInst
import HandS.TupLe
import PyProof.ReprRoads
import HandS.Strs
import PyProof.CallFns
import KE.GoesEnum
import KE.GoesMore
import HandS.Iter
import HandS.Rev
import HandS.ExcOwn
import HandS.Conv
import KE.KExcSuper
import HandS.ExcSuper
import HandS.ExcIs
import HandS.ExcField
import HandS.HeadHook2
import HandS.TryOnly
import KE.KNest
import PyProof.InstNe
import HandS.EndTab
import HandS.HeadEnd
import HandS.Head2
import KE.KNestM
import KE.KStateDown
import HandS.Words
import HandS.WordsExc
import HandS.Defaults
import HandS.Ends
import HandS.More
import PySem.Challenge.RW_roomsled_k03_whole_shapes_and_turned_row
set_option Elab.async false
section
set_option Elab.async false
set_option linter.all false
set_option maxRecDepth 100000
set_option maxHeartbeats 2000000
namespace PyD
open PySem PySem.Spec PyProof.Rows L2
abbrev St := L2.St

/-- a value, by value -/
inductive D where
  | non | bl (b : Bool) | int (i : Int) | str (x : Str)
  | tup (ds : List D) | lst (ds : List D) | dic (kvs : List (D × D))
  | ins (c : Str) (fs : List (Str × D))
  | exc (c : Str) (fs : List (Str × D))
  | fn (x : Str) | ty (n : String)
  | clo (id : Nat) (cs : List Nat)
  | box (i : Nat)
  | scr (is : List Int)

/-- what stays for good -/
def stab : HO → Bool
  | .frz _ _ => true
  | .tup _ => true
  | .xd _ => true
  | .own _ => true
  | _ => false
def Ext (H H' : Hp) : Prop := ∀ b o, H b = some o → stab o = true → H' b = some o
theorem Ext.refl (H : Hp) : Ext H H := fun _ _ h _ => h
theorem Ext.trans {H H1 H2 : Hp} (a : Ext H H1) (b : Ext H1 H2) : Ext H H2 := fun c o h n => b c o (a c o h n) n
theorem Ext.of {H H' : Hp} (e : ∀ b o, H b = some o → H' b = some o) : Ext H H' := fun b o h _ => e b o h
/-- a new object -/
theorem Ext.new {H : Hp} {p : Addr} {o : HO} (hp : H p = none) : Ext H (upd H p o) := fun b u h _ => by
  rw [upd_ne (ne_of_none h hp)]; exact h
/-- an object that may change -/
theorem Ext.mut {H : Hp} {p : Addr} {o u : HO} (hp : H p = some u) (hu : stab u = false) : Ext H (upd H p o) := fun b v h n => by
  by_cases e : b = p
  · subst e; rw [hp] at h; cases h; rw [hu] at n; cases n
  · rw [upd_ne e]; exact h
/-- a list that is never written -/
def FrL (H : Hp) (a : Addr) (xs : List V) : Prop := ∃ o, H a = some (.frz o (.lst xs))
theorem FrL.seq {K : PySem.W.Frag} {H : Hp} {a : Addr} {xs : List V} (h : FrL H a xs) : SqL K H a xs := .inl (.inr h)
theorem FrL.ext {H H' : Hp} {a : Addr} {xs : List V} (e : Ext H H') (h : FrL H a xs) : FrL H' a xs := by
  obtain ⟨o, h⟩ := h
  exact ⟨o, e _ _ h rfl⟩
/-- the script's list -/
def ScL (K : PySem.W.Frag) (H : Hp) (a : Addr) (xs : List V) : Prop :=
  FrL H a xs ∨
    ∃ (o : Obj) (its : Array Value) (n : Nat), K.lookup a = some o ∧ o.cls = .type "list" ∧ o.dict = none ∧ o.data = .seq its n ∧ its.size ≤ sizeLine ∧ Vals xs its.toList
theorem ScL.seq {K : PySem.W.Frag} {H : Hp} {a : Addr} {xs : List V} (h : ScL K H a xs) : SqL K H a xs := by
  rcases h with h | h
  · exact h.seq
  · exact .inr h
theorem ScL.ext {K : PySem.W.Frag} {H H' : Hp} {a : Addr} {xs : List V} (e : Ext H H') (h : ScL K H a xs) : ScL K H' a xs := by
  rcases h with h | h
  · exact .inl (h.ext e)
  · exact .inr h
theorem SqT.ext {K : PySem.W.Frag} {H H' : Hp} {a : Addr} {xs : List V} (e : Ext H H') (h : SqT K H a xs) : SqT K H' a xs := by
  rcases h with (h | ⟨o, h⟩) | h
  · exact .inl (.inl (e _ _ h rfl))
  · exact .inl (.inr ⟨o, e _ _ h rfl⟩)
  · exact .inr h

/-- a tuple, known for good, without a dict -/
def TuL (K : PySem.W.Frag) (H : Hp) (a : Addr) (xs : List V) : Prop :=
  (∃ o : Obj, H a = some (.frz o (.tup xs)) ∧ o.dict = none) ∨
    ∃ (o : Obj) (its : Array Value) (n : Nat), K.lookup a = some o ∧ o.cls = .type "tuple" ∧ o.dict = none ∧ o.data = .seq its n ∧ its.size ≤ sizeLine ∧ Vals xs its.toList
theorem TuL.seq {K : PySem.W.Frag} {H : Hp} {a : Addr} {xs : List V} (h : TuL K H a xs) : SqT K H a xs := by
  rcases h with ⟨o, h, _⟩ | ⟨o, its, n, h1, h2, _, h4, h5, h6⟩
  · exact .inl (.inr ⟨o, h⟩)
  · exact .inr ⟨o, its, n, h1, h2, h4, h5, h6⟩
theorem TuL.ext {K : PySem.W.Frag} {H H' : Hp} {a : Addr} {xs : List V} (e : Ext H H') (h : TuL K H a xs) : TuL K H' a xs := by
  rcases h with ⟨o, h, d⟩ | h
  · exact .inl ⟨o, e _ _ h rfl, d⟩
  · exact .inr h

/-- the text of the lambdas of a program: parameters, body, scope, the qualified name -/
structure LamT where
  params : Arguments
  body : Expr
  scope : Scope
  qual : Str
/-- the static part: what the walk knows of the program -/
structure RC where
  P : Program
  w : World
  K : PySem.W.Frag
  mg : Str → Option Value
  base : Heap
  lam : Nat → Option LamT
  /-- the room a closure wants -/
  kc : Nat
  /-- by which keywords a def is called: how many values ahead, which names -/
  kwt : Str → List (Nat × List Str)
/-- a key of a dict as a value -/
def keyD : Key → D
  | .inl i => .int i
  | .inr x => .str x
/-- the object at a is a closure -/
def CloObj (R : RC) (H : Hp) (id : Nat) (cs : List Nat) (o : Obj) : Prop :=
  ∃ (L : LamT) (cells : List (Str × Addr)) (pm : Value) (c' : Addr) (ctv : Value) (oc : Obj), R.lam id = some L ∧
    o = PySem.W.kla_obj "<lambda>" L.qual L.params L.body L.scope (cloFrom cells L.scope.names []) pm c' ctv ∧ cs = (cloFrom cells L.scope.names []).map (·.2) ∧
    H c' = some (.frz oc (LamX.CodeO c' L.qual))

mutual
/-- the value d is told by v, for good; ρ: where the boxes stand -/
inductive Rep (R : RC) (ρ : List (List Addr)) (H : Hp) : D → V → Prop
  | non : Rep R ρ H .non .non
  | bl (b : Bool) : Rep R ρ H (.bl b) (.bl b)
  | int (i : Int) : Rep R ρ H (.int i) (.int i)
  | str (x : Str) : Rep R ρ H (.str x) (.str x)
  | ty (n : String) : Rep R ρ H (.ty n) (.ty n)
  | tup {a : Addr} {ds : List D} {vs : List V} : TuL R.K H a vs → Reps R ρ H ds vs → Rep R ρ H (.tup ds) (.ref a)
  | lst {a : Addr} {ds : List D} {vs : List V} : FrL H a vs → Reps R ρ H ds vs → Rep R ρ H (.lst ds) (.ref a)
  | ins {a C dx : Addr} {o : Obj} {c : Str} {fs : List (Str × D)} {ks : List (Str × V)} : H a = some (.frz o (.ins C dx ks)) → R.mg c = some (.ref C) → RepF R ρ H fs ks → Rep R ρ H (.ins c fs) (.ref a)
  | exc {a C dx : Addr} {o : Obj} {u : HO} {c : Str} {fs : List (Str × D)} {ks : List (Str × V)} : H a = some (.frz o u) → o.cls = .ref C → o.dict = some dx → (∃ xs, o.data = .fields xs) → H dx = some (.xd ks) → R.mg c = some (.ref C) → RepF R ρ H fs ks → Rep R ρ H (.exc c fs) (.ref a)
  | excN {a C : Addr} {o : Obj} {u : HO} {c : Str} : H a = some (.frz o u) → o.cls = .ref C → o.dict = none → (∃ xs, o.data = .fields xs) → R.mg c = some (.ref C) → Rep R ρ H (.exc c []) (.ref a)
  | fn {x : Str} {a : Addr} : R.mg x = some (.ref a) → Rep R ρ H (.fn x) (.ref a)
  | clo {a : Addr} {o : Obj} {u : HO} {id : Nat} {cs : List Nat} : H a = some (.frz o u) → CloObj R H id cs o → Rep R ρ H (.clo id cs) (.ref a)
  | box {i : Nat} {a : Addr} {t : List Addr} : ρ[i]? = some (a :: t) → Rep R ρ H (.box i) (.ref a)
  | dic {a : Addr} {o : Obj} {ds : List (D × D)} {ks : List (Key × V)} : H a = some (.frz o (.dK ks)) → RepK R ρ H ds ks → Rep R ρ H (.dic ds) (.ref a)
  | scr {a : Addr} {is : List Int} : ScL R.K H a (is.map V.int) → Rep R ρ H (.scr is) (.ref a)
inductive Reps (R : RC) (ρ : List (List Addr)) (H : Hp) : List D → List V → Prop
  | nil : Reps R ρ H [] []
  | cons {d : D} {v : V} {ds : List D} {vs : List V} : Rep R ρ H d v → Reps R ρ H ds vs → Reps R ρ H (d :: ds) (v :: vs)
inductive RepK (R : RC) (ρ : List (List Addr)) (H : Hp) : List (D × D) → List (Key × V) → Prop
  | nil : RepK R ρ H [] []
  | cons {k : Key} {d : D} {v : V} {ds : List (D × D)} {vs : List (Key × V)} : Rep R ρ H d v → RepK R ρ H ds vs → RepK R ρ H ((keyD k, d) :: ds) ((k, v) :: vs)
inductive RepF (R : RC) (ρ : List (List Addr)) (H : Hp) : List (Str × D) → List (Str × V) → Prop
  | nil : RepF R ρ H [] []
  | cons {f : Str} {d : D} {v : V} {ds : List (Str × D)} {vs : List (Str × V)} : Rep R ρ H d v → RepF R ρ H ds vs → RepF R ρ H ((f, d) :: ds) ((f, v) :: vs)
end

/-- the boxes: those that stood stand -/
def RExt (ρ ρ' : List (List Addr)) : Prop := ∀ (i : Nat) (a : List Addr), ρ[i]? = some a → ρ'[i]? = some a
theorem RExt.refl (ρ : List (List Addr)) : RExt ρ ρ := fun _ _ h => h
theorem RExt.trans {a b c : List (List Addr)} (x : RExt a b) (y : RExt b c) : RExt a c := fun i p h => y i p (x i p h)

theorem CloObj.ext {R : RC} {H H' : Hp} {id : Nat} {cs : List Nat} {o : Obj} (e : Ext H H') (h : CloObj R H id cs o) : CloObj R H' id cs o := by
  obtain ⟨L, cl, pm, c', ctv, oc, h1, h2, h3, h4⟩ := h
  exact ⟨L, cl, pm, c', ctv, oc, h1, h2, h3, e _ _ h4 rfl⟩
section
variable {R : RC} {ρ ρ' : List (List Addr)} {H H' : Hp}
mutual
theorem Rep.ext (x : RExt ρ ρ') (e : Ext H H') : ∀ {d : D} {v : V}, Rep R ρ H d v → Rep R ρ' H' d v
  | _, _, .non => .non
  | _, _, .bl b => .bl b
  | _, _, .int i => .int i
  | _, _, .str s => .str s
  | _, _, .ty n => .ty n
  | _, _, .tup h r => .tup (TuL.ext e h) (Reps.ext x e r)
  | _, _, .lst h r => .lst (h.ext e) (Reps.ext x e r)
  | _, _, .ins h m r => .ins (e _ _ h rfl) m (RepF.ext x e r)
  | _, _, .exc h1 h2 h3 h4 h5 h6 r => .exc (e _ _ h1 rfl) h2 h3 h4 (e _ _ h5 rfl) h6 (RepF.ext x e r)
  | _, _, .excN h1 h2 h3 h4 h5 => .excN (e _ _ h1 rfl) h2 h3 h4 h5
  | _, _, .fn h => .fn h
  | _, _, .clo h c => .clo (e _ _ h rfl) (c.ext e)
  | _, _, .box h => .box (x _ _ h)
  | _, _, .dic h r => .dic (e _ _ h rfl) (RepK.ext x e r)
  | _, _, .scr h => .scr (h.ext e)
theorem RepK.ext (x : RExt ρ ρ') (e : Ext H H') : ∀ {ds : List (D × D)} {vs : List (Key × V)}, RepK R ρ H ds vs → RepK R ρ' H' ds vs
  | _, _, .nil => .nil
  | _, _, .cons r t => .cons (Rep.ext x e r) (RepK.ext x e t)
theorem Reps.ext (x : RExt ρ ρ') (e : Ext H H') : ∀ {ds : List D} {vs : List V}, Reps R ρ H ds vs → Reps R ρ' H' ds vs
  | _, _, .nil => .nil
  | _, _, .cons r t => .cons (Rep.ext x e r) (Reps.ext x e t)
theorem RepF.ext (x : RExt ρ ρ') (e : Ext H H') : ∀ {ds : List (Str × D)} {vs : List (Str × V)}, RepF R ρ H ds vs → RepF R ρ' H' ds vs
  | _, _, .nil => .nil
  | _, _, .cons r t => .cons (Rep.ext x e r) (RepF.ext x e t)
end
theorem Reps.length : ∀ {ds : List D} {vs : List V}, Reps R ρ H ds vs → ds.length = vs.length
  | _, _, .nil => rfl
  | _, _, .cons _ t => by simp [Reps.length t]
theorem Reps.get : ∀ {ds : List D} {vs : List V} {i : Nat} {d : D}, Reps R ρ H ds vs → ds[i]? = some d → ∃ v, vs[i]? = some v ∧ Rep R ρ H d v
  | _, _, _, _, .nil, e => by simp at e
  | _, _, 0, _, .cons r _, e => by simp at e; subst e; exact ⟨_, rfl, r⟩
  | _, _, i + 1, d, .cons _ t, e => by
    obtain ⟨v, h1, h2⟩ := Reps.get (i := i) (d := d) t (by simpa using e)
    exact ⟨v, by simpa using h1, h2⟩
theorem Reps.getV : ∀ {ds : List D} {vs : List V} {i : Nat} {v : V}, Reps R ρ H ds vs → vs[i]? = some v → ∃ d, ds[i]? = some d ∧ Rep R ρ H d v
  | _, _, _, _, .nil, e => by simp at e
  | _, _, 0, _, .cons r _, e => by simp at e; subst e; exact ⟨_, rfl, r⟩
  | _, _, i + 1, v, .cons _ t, e => by
    obtain ⟨d, h1, h2⟩ := Reps.getV (i := i) (v := v) t (by simpa using e)
    exact ⟨d, by simpa using h1, h2⟩
theorem Reps.append : ∀ {ds es : List D} {vs us : List V}, Reps R ρ H ds vs → Reps R ρ H es us → Reps R ρ H (ds ++ es) (vs ++ us)
  | _, _, _, _, .nil, s => s
  | _, _, _, _, .cons r t, s => .cons r (Reps.append t s)
theorem Reps.take : ∀ {ds : List D} {vs : List V} (n : Nat), Reps R ρ H ds vs → Reps R ρ H (ds.take n) (vs.take n)
  | _, _, 0, _ => .nil
  | _, _, _ + 1, .nil => .nil
  | _, _, n + 1, .cons r t => .cons r (Reps.take n t)
theorem Reps.drop : ∀ {ds : List D} {vs : List V} (n : Nat), Reps R ρ H ds vs → Reps R ρ H (ds.drop n) (vs.drop n)
  | _, _, 0, r => r
  | _, _, _ + 1, .nil => .nil
  | _, _, n + 1, .cons _ t => Reps.drop n t
theorem Reps.reverse : ∀ {ds : List D} {vs : List V}, Reps R ρ H ds vs → Reps R ρ H ds.reverse vs.reverse
  | _, _, .nil => .nil
  | _, _, .cons r t => by
    rw [List.reverse_cons, List.reverse_cons]
    exact (Reps.reverse t).append (.cons r .nil)
theorem Reps.set {d : D} {v : V} (r : Rep R ρ H d v) : ∀ {ds : List D} {vs : List V} (i : Nat), Reps R ρ H ds vs → Reps R ρ H (ds.set i d) (vs.set i v)
  | _, _, _, .nil => .nil
  | _, _, 0, .cons _ t => .cons r t
  | _, _, i + 1, .cons q t => .cons q (Reps.set r i t)
theorem RepF.lookup {f : Str} : ∀ {ds : List (Str × D)} {vs : List (Str × V)} {d : D}, RepF R ρ H ds vs → ds.lookup f = some d → ∃ v, vs.lookup f = some v ∧ Rep R ρ H d v
  | _, _, _, .nil, e => by simp at e
  | (g, d0) :: ds, (_, v0) :: vs, d, .cons r t, e => by
    rw [List.lookup_cons] at e ⊢
    cases hb : f == g with
    | true => rw [hb] at e; simp at e; subst e; exact ⟨_, rfl, r⟩
    | false => rw [hb] at e; exact RepF.lookup t e
theorem Reps.ints : ∀ (ns : List Int), Reps R ρ H (ns.map D.int) (ns.map V.int)
  | [] => .nil
  | n :: ns => .cons (.int n) (Reps.ints ns)
end

/-- a slot's or an expression's value: owned (a list or a dict of ours alone, that may change) or for good -/
inductive RepO (R : RC) (ρ : List (List Addr)) (H : Hp) : D → V → Prop
  | lst {a : Addr} {ds : List D} {vs : List V} : H a = some (.lst vs) → Reps R ρ H ds vs → RepO R ρ H (.lst ds) (.ref a)
  | ins {a C dx : Addr} {c : Str} {fs : List (Str × D)} {ks : List (Str × V)} : H a = some (.ins C dx ks) → R.mg c = some (.ref C) → RepF R ρ H fs ks → RepO R ρ H (.ins c fs) (.ref a)
def RepX (R : RC) (ρ : List (List Addr)) (H : Hp) (own : Bool) (d : D) (v : V) : Prop := if own = true then RepO R ρ H d v else Rep R ρ H d v
theorem RepX.f {R : RC} {ρ : List (List Addr)} {H : Hp} {d : D} {v : V} (h : RepX R ρ H false d v) : Rep R ρ H d v := h
theorem RepX.t {R : RC} {ρ : List (List Addr)} {H : Hp} {d : D} {v : V} (h : RepX R ρ H true d v) : RepO R ρ H d v := h
/-- readable now -/
def RepB (R : RC) (ρ : List (List Addr)) (H : Hp) (d : D) (v : V) : Prop := Rep R ρ H d v ∨ RepO R ρ H d v
theorem RepX.b {R : RC} {ρ : List (List Addr)} {H : Hp} {own : Bool} {d : D} {v : V} (h : RepX R ρ H own d v) : RepB R ρ H d v := by
  cases own with
  | true => exact .inr h
  | false => exact .inl h
end PyD
end
section
set_option Elab.async false
set_option linter.all false
set_option maxRecDepth 100000
set_option maxHeartbeats 2000000
namespace PyD
open PySem PySem.Spec PyProof.Rows L2

theorem ObjOk.frzH {P : Program} {w : World} {H : Hp} {h : Heap} {a b : Addr} {u o' : HO} {o : Obj} (hu : H a = some u) (mu : Mut (some u)) (x : ObjOk P w H h b o') : ObjOk P w (upd H a (.frz o u)) h b o' := by
  refine x.stay (fun c v _ q => q) (fun c q => ?_) fun c xs q => ?_
  · have hc : c ≠ a := fun z => by rw [z, hu] at q; cases q; exact mu
    rw [upd_ne hc]; exact q
  · have hc : c ≠ a := fun z => by rw [z, hu] at q; cases q; exact mu
    rw [upd_ne hc]; exact q
theorem Inv.frz {X : Cx} {pins : List (Addr × Obj)} {σ : St} {H : Hp} {s : Shared} {a : Addr} {u : HO} (I : L2.Inv X pins σ H s) (hu : H a = some u) (mu : Mut (some u)) :
    ∃ o : Obj, L2.Inv X pins σ (upd H a (.frz o u)) s := by
  have mono : ∀ b o, H b = some o → ¬ Mut (some o) → ∀ o' : HO, (upd H a o') b = some o := fun b o q nm o' => by
    have hc : b ≠ a := fun z => by rw [z, hu] at q; cases q; exact nm mu
    rw [upd_ne hc]; exact q
  have nn : ∀ b, H b = none → ∀ o' : HO, (upd H a o') b = none := fun b q o' => by
    have hc : b ≠ a := fun z => by rw [z, hu] at q; cases q
    rw [upd_ne hc]; exact q
  obtain ⟨o, ho⟩ : ∃ o, s.heap.get? a = some o := by
    have x := (I.hok a u hu).lt
    have z := I.hok a u hu
    cases u with
    | lst xs => obtain ⟨_, _, _, _, e⟩ := z; exact ⟨_, e⟩
    | tup xs => obtain ⟨_, _, _, ob, e, _⟩ := z; exact ⟨_, e⟩
    | dK kvs => obtain ⟨_, _, _, _, ob, _, _, e, _⟩ := z; exact ⟨_, e⟩
    | dT kvs => obtain ⟨_, _, _, _, ob, _, _, e, _⟩ := z; exact ⟨_, e⟩
    | set S n => obtain ⟨ob, _, _, _, e, _⟩ := z; exact ⟨_, e⟩
    | own y => exact z
    | xd fs => obtain ⟨_, ⟨_, _, _, e, _⟩, _⟩ := z; exact ⟨_, e⟩
    | rng lo hi => obtain ⟨_, _, _, e⟩ := z; exact ⟨_, e⟩
    | ins C dx fs => obtain ⟨_, _, _, e, _⟩ := z; exact ⟨_, e⟩
    | frz o v => exact ⟨_, z.1⟩
    | tbl ps => exact ⟨_, z⟩
    | met f y => exact ⟨_, z⟩
    | ext φ => obtain ⟨_, e, _⟩ := z; exact e
  refine ⟨o, I.ok, I.os, I.bare, ⟨I.base.keep, I.base.slot, fun b ob e n hx => nn b (I.base.free b ob e n hx) _, I.base.there, fun b xs e => mono b _ (I.base.tups b xs e) (fun z => z) _, fun b ob xs e => mono b _ (I.base.frzs b ob xs e) (fun z => z) _, fun b ps e => ?_⟩,
    I.loc, I.cell, nn _ I.free _, fun x c e => nn _ (I.freeC x c e) _, fun p hp => ?_, fun b o' e => ?_, I.len⟩
  · obtain ⟨more, q⟩ := I.base.tbls b ps e
    exact ⟨more, mono b _ q (fun z => z) _⟩
  · obtain ⟨e, n, r⟩ := I.pin p hp
    exact ⟨e, nn _ n _, r⟩
  · by_cases hb : b = a
    · subst hb
      rw [upd_same] at e; cases e
      exact ⟨ho, ObjOk.frzH hu mu (I.hok b u hu)⟩
    · rw [upd_ne hb] at e
      exact ObjOk.frzH hu mu (I.hok b o' e)

/-- what stands in a box -/
inductive Ob where
  /-- the law's draw: large, rest, cells, turn -/
  | drw (large : List Int) (rest : Int) (cells : List Int) (turn : Int)
  /-- an instance that may change -/
  | ins (c : Str) (fs : List (Str × D))
structure G where
  bx : List Ob
abbrev Loc := List (Option (Bool × D))
inductive Res where
  | ok (own : Bool) (d : D) (g : G)
  | ex (c : Str) (fs : List (Str × D)) (g : G)
  | bad

def kLarge : Key := .inr "large"
def kRest : Key := .inr "rest"
def kCells : Key := .inr "cells"
def kTurn : Key := .inr "turn"
def BoxAt (R : RC) (ρ : List (List Addr)) (H : Hp) (l : List Addr) : Ob → Prop
  | .drw large rest cells turn => ∃ (a b c : Addr) (kvs : List (Key × V)), l = [a, b] ∧ H a = some (.dK kvs) ∧ H b = some (.lst (large.map V.int)) ∧ FrL H c (cells.map V.int) ∧
      valV kvs kLarge = some (.ref b) ∧ valV kvs kRest = some (.int rest) ∧ valV kvs kCells = some (.ref c) ∧ valV kvs kTurn = some (.int turn) ∧ kvs.length < 1000
  | .ins c fs => ∃ (a C dx : Addr) (ks : List (Str × V)), l = [a] ∧ H a = some (.ins C dx ks) ∧ R.mg c = some (.ref C) ∧ RepF R ρ H fs ks

/-- the tables of the code objects: each code object that one tells is known for good -/
def TabS (H : Hp) (P : Addr) (q : Str) : Prop := ∃ ps : Array Value, H P = some (.tbl ps) ∧ TriplesOk ps.toList ∧ ∀ (pos : Pos) (cv : Value), codeAmong pos ps.toList = some cv → ∃ c oc, cv = .ref c ∧ H c = some (.frz oc (LamX.CodeO c q))
abbrev Tab := List (Addr × Str)
def Tabs (T : Tab) (H : Hp) : Prop := ∀ p ∈ T, TabS H p.1 p.2

/-- the boxes and the tables -/
structure GR (R : RC) (T : Tab) (ρ : List (List Addr)) (H : Hp) (g : G) : Prop where
  bx : ∀ (i : Nat) (ob : Ob), g.bx[i]? = some ob → ∃ l, ρ[i]? = some l ∧ BoxAt R ρ H l ob
  len : ρ.length = g.bx.length
  nd : ρ.flatten.Nodup
  tab : Tabs T H
/-- what is kept: all but the boxes' objects and the tables -/
structure Keep (ρ : List (List Addr)) (H H' : Hp) : Prop where
  st : ∀ b o, H b = some o → b ∉ ρ.flatten → (∀ ps, o ≠ .tbl ps) → H' b = some o
  tb : ∀ b ps, H b = some (.tbl ps) → ∃ qs, H' b = some (.tbl qs)
theorem Keep.refl (ρ : List (List Addr)) (H : Hp) : Keep ρ H H := ⟨fun _ _ h _ _ => h, fun _ ps h => ⟨ps, h⟩⟩
theorem Keep.of {ρ : List (List Addr)} {H H' : Hp} (h : ∀ b o, H b = some o → H' b = some o) : Keep ρ H H' := ⟨fun b o q _ _ => h b o q, fun b ps q => ⟨ps, h b _ q⟩⟩
theorem flat_mem {ρ : List (List Addr)} {b : Addr} (h : b ∈ ρ.flatten) : ∃ (i : Nat) (l : List Addr), ρ[i]? = some l ∧ b ∈ l := by
  obtain ⟨l, hl, hb⟩ := List.mem_flatten.mp h
  obtain ⟨i, hi, e⟩ := List.getElem_of_mem hl
  exact ⟨i, l, by rw [List.getElem?_eq_getElem hi, e], hb⟩
theorem mem_flat {ρ : List (List Addr)} {b : Addr} {i : Nat} {l : List Addr} (h : ρ[i]? = some l) (hb : b ∈ l) : b ∈ ρ.flatten := by
  obtain ⟨hi, e⟩ := List.getElem?_eq_some_iff.mp h
  exact List.mem_flatten.mpr ⟨l, e ▸ List.getElem_mem hi, hb⟩
theorem BoxAt.unst {R : RC} {ρ : List (List Addr)} {H : Hp} {l : List Addr} {ob : Ob} (h : BoxAt R ρ H l ob) : ∀ b ∈ l, ∃ o, H b = some o ∧ stab o = false := by
  cases ob with
  | drw large rest cells turn =>
    obtain ⟨a, b, c, kvs, e, h1, h2, h3, _⟩ := h
    subst e
    intro x hx
    rcases List.mem_cons.mp hx with e | hx
    · subst e; exact ⟨_, h1, rfl⟩
    · rcases List.mem_cons.mp hx with e | hx
      · subst e; exact ⟨_, h2, rfl⟩
      · cases hx
  | ins c fs =>
    obtain ⟨a, C, dx, ks, e, h1, h2, h3⟩ := h
    subst e
    intro x hx
    rcases List.mem_cons.mp hx with e | hx
    · subst e; exact ⟨_, h1, rfl⟩
    · cases hx
theorem GR.unst {R : RC} {T : Tab} {ρ : List (List Addr)} {H : Hp} {g : G} (x : GR R T ρ H g) {b : Addr} (hb : b ∈ ρ.flatten) : ∃ o, H b = some o ∧ stab o = false := by
  obtain ⟨i, l, h1, h2⟩ := flat_mem hb
  have hi : i < g.bx.length := by rw [← x.len]; exact (List.getElem?_eq_some_iff.mp h1).1
  obtain ⟨l', e1, e2⟩ := x.bx i _ (List.getElem?_eq_getElem hi)
  rw [h1] at e1; cases e1
  exact e2.unst b h2
theorem Keep.ext {R : RC} {T : Tab} {ρ : List (List Addr)} {H H' : Hp} {g : G} (x : GR R T ρ H g) (k : Keep ρ H H') : Ext H H' := fun b o h st => by
  refine k.st b o h (fun hb => ?_) fun ps z => by rw [z] at st; cases st
  obtain ⟨o', e, u⟩ := x.unst hb
  rw [h] at e; cases e
  rw [st] at u; cases u
theorem RExt.flat {ρ ρ' : List (List Addr)} (x : RExt ρ ρ') {b : Addr} (h : b ∈ ρ.flatten) : b ∈ ρ'.flatten := by
  obtain ⟨i, l, h1, h2⟩ := flat_mem h
  exact mem_flat (x _ _ h1) h2
/-- new boxes are of new objects -/
def RNew (ρ ρ' : List (List Addr)) (H : Hp) : Prop := RExt ρ ρ' ∧ ∀ b, b ∈ ρ'.flatten → b ∈ ρ.flatten ∨ H b = none
theorem RNew.refl (ρ : List (List Addr)) (H : Hp) : RNew ρ ρ H := ⟨RExt.refl ρ, fun _ h => .inl h⟩
theorem Keep.none {ρ : List (List Addr)} {H H' : Hp} (k : Keep ρ H H') {b : Addr} (h : H' b = none) (hb : b ∉ ρ.flatten) : H b = none := by
  cases e : H b with
  | none => rfl
  | some o =>
    by_cases q : ∃ ps, o = .tbl ps
    · obtain ⟨ps, rfl⟩ := q
      obtain ⟨qs, z⟩ := k.tb b ps e
      rw [h] at z; cases z
    · have := k.st b _ e hb fun ps z => q ⟨ps, z⟩
      rw [h] at this; cases this

/-- the state of the evaluator -/
structure SR (R : RC) (T : Tab) (ρ : List (List Addr)) (H : Hp) (loc : Loc) (g : G) (σ : St) : Prop where
  gr : GR R T ρ H g
  sl : ∀ (i : Nat) (own : Bool) (d : D), loc[i]? = some (some (own, d)) → ∃ v, σ[i]? = some (some v) ∧ RepX R ρ H own d v
  apart : ∀ (i j : Nat) (d e : D) (a : Addr), loc[i]? = some (some (true, d)) → loc[j]? = some (some (true, e)) → σ[i]? = some (some (.ref a)) → σ[j]? = some (some (.ref a)) → i = j
  off : ∀ (i : Nat) (d : D) (a : Addr), loc[i]? = some (some (true, d)) → σ[i]? = some (some (.ref a)) → a ∉ ρ.flatten
  len : loc.length ≤ σ.length

section
variable {R : RC} {T : Tab} {ρ ρ' ρ2 : List (List Addr)} {H H' H2 : Hp} {loc : Loc} {g g' : G} {σ : St}
theorem RepO.at {d : D} {v : V} (h : RepO R ρ H d v) : ∃ a o, v = .ref a ∧ H a = some o ∧ stab o = false ∧ ∀ ps, o ≠ .tbl ps := by
  cases h with
  | lst h1 _ => exact ⟨_, _, rfl, h1, rfl, fun ps z => by cases z⟩
  | ins h1 _ _ => exact ⟨_, _, rfl, h1, rfl, fun ps z => by cases z⟩
theorem RepO.keep {d : D} {a : Addr} (x : RExt ρ ρ') (e : Ext H H') (hk : ∀ o, H a = some o → H' a = some o) (h : RepO R ρ H d (.ref a)) : RepO R ρ' H' d (.ref a) := by
  cases h with
  | lst h1 r => exact .lst (hk _ h1) (Reps.ext x e r)
  | ins h1 m r => exact .ins (hk _ h1) m (RepF.ext x e r)
theorem SR.keep (S : SR R T ρ H loc g σ) (n : RNew ρ ρ' H) (k : Keep ρ H H') (x : GR R T ρ' H' g') : SR R T ρ' H' loc g' σ := by
  have e := k.ext S.gr
  refine ⟨x, fun i own d h => ?_, S.apart, fun i d a h1 h2 hb => ?_, S.len⟩
  · obtain ⟨v, h1, h2⟩ := S.sl i own d h
    refine ⟨v, h1, ?_⟩
    cases own with
    | false => exact Rep.ext n.1 e h2
    | true =>
      obtain ⟨a, o, rfl, ho, _, nt⟩ := RepO.at h2
      exact RepO.keep n.1 e (fun o' h' => by rw [ho] at h'; cases h'; exact k.st a o ho (S.off i d a h h1) nt) h2
  · rcases n.2 a hb with hb | hb
    · exact S.off i d a h1 h2 hb
    · obtain ⟨v, e1, e2⟩ := S.sl i true d h1
      rw [h2] at e1; cases e1
      obtain ⟨a', o, e3, ho, _⟩ := RepO.at e2
      cases e3
      rw [hb] at ho; cases ho
theorem Keep.trans {ρ1 : List (List Addr)} (n : RNew ρ ρ1 H) (a : Keep ρ H H2) (b : Keep ρ1 H2 H') : Keep ρ H H' where
  st := fun c o h h1 h2 => by
    refine b.st c o (a.st c o h h1 h2) (fun z => ?_) h2
    rcases n.2 c z with z | z
    · exact h1 z
    · rw [h] at z; cases z
  tb := fun c ps h => by
    obtain ⟨qs, h1⟩ := a.tb c ps h
    exact b.tb c qs h1
theorem RNew.trans {ρ1 : List (List Addr)} (n : RNew ρ ρ1 H) (k : Keep ρ H H2) (m : RNew ρ1 ρ' H2) : RNew ρ ρ' H := ⟨n.1.trans m.1, fun b hb => by
  rcases m.2 b hb with z | z
  · exact n.2 b z
  · by_cases hr : b ∈ ρ.flatten
    · exact .inl hr
    · exact .inr (k.none z hr)⟩
/-- one step behind another one -/
structure Stp (R : RC) (T : Tab) (ρ ρ' : List (List Addr)) (H H' : Hp) (g' : G) : Prop where
  n : RNew ρ ρ' H
  k : Keep ρ H H'
  x : GR R T ρ' H' g'
theorem Stp.refl (x : GR R T ρ H g) : Stp R T ρ ρ H H g := ⟨RNew.refl ρ H, Keep.refl ρ H, x⟩
theorem Stp.trans {ρ1 : List (List Addr)} {g1 : G} (a : Stp R T ρ ρ1 H H2 g1) (b : Stp R T ρ1 ρ' H2 H' g') : Stp R T ρ ρ' H H' g' := ⟨a.n.trans a.k b.n, Keep.trans a.n a.k b.k, b.x⟩
theorem Stp.ext (x : GR R T ρ H g) (a : Stp R T ρ ρ' H H' g') : Ext H H' := a.k.ext x
theorem Stp.sr (S : SR R T ρ H loc g σ) (a : Stp R T ρ ρ' H H' g') : SR R T ρ' H' loc g' σ := S.keep a.n a.k a.x
theorem BoxAt.keep {ρ ρ' : List (List Addr)} {H H' : Hp} {l : List Addr} {ob : Ob} (x : RExt ρ ρ') (e : Ext H H') (k : ∀ b o, b ∈ l → H b = some o → H' b = some o) (h : BoxAt R ρ H l ob) : BoxAt R ρ' H' l ob := by
  cases ob with
  | drw large rest cells turn =>
    obtain ⟨a, b, c, kvs, rfl, h1, h2, h3, hk⟩ := h
    exact ⟨a, b, c, kvs, rfl, k _ _ (by simp) h1, k _ _ (by simp) h2, h3.ext e, hk⟩
  | ins c fs =>
    obtain ⟨a, C, dx, ks, rfl, h1, h2, h3⟩ := h
    exact ⟨a, C, dx, ks, rfl, k _ _ (by simp) h1, h2, RepF.ext x e h3⟩
theorem TabS.ext {P : Addr} {q : Str} (e : Ext H H') (k : ∀ ps, H P = some (.tbl ps) → H' P = some (.tbl ps)) (t : TabS H P q) : TabS H' P q := by
  obtain ⟨ps, h1, h2, h3⟩ := t
  refine ⟨ps, k _ h1, h2, fun pos cv hc => ?_⟩
  obtain ⟨c, oc, e1, e2⟩ := h3 pos cv hc
  exact ⟨c, oc, e1, e _ _ e2 rfl⟩
/-- everything stays: a new object, say -/
theorem GR.all (x : GR R T ρ H g) (k : ∀ b o, H b = some o → H' b = some o) : GR R T ρ H' g := by
  have e : Ext H H' := Ext.of k
  refine ⟨fun i ob h => ?_, x.len, x.nd, fun p hp => (x.tab p hp).ext e fun ps h => k _ _ h⟩
  obtain ⟨l, h1, h2⟩ := x.bx i ob h
  exact ⟨l, h1, h2.keep (RExt.refl _) e fun b o _ q => k b o q⟩
theorem Stp.all (x : GR R T ρ H g) (k : ∀ b o, H b = some o → H' b = some o) : Stp R T ρ ρ H H' g := ⟨⟨RExt.refl ρ, fun _ h => .inl h⟩, Keep.of k, x.all k⟩
theorem upd_all {p : Addr} {o : HO} (hp : H p = none) : ∀ b u, H b = some u → upd H p o b = some u := fun b u h => by rw [upd_ne (ne_of_none h hp)]; exact h
theorem Stp.new (x : GR R T ρ H g) {p : Addr} {o : HO} (hp : H p = none) : Stp R T ρ ρ H (upd H p o) g := Stp.all x (upd_all hp)
/-- an owned object of nobody else is written or frozen -/
theorem GR.put (x : GR R T ρ H g) {p : Addr} {o u : HO} (hp : H p = some u) (hu : stab u = false) (nt : ∀ ps, u ≠ .tbl ps) (hf : p ∉ ρ.flatten) : GR R T ρ (upd H p o) g := by
  have e : Ext H (upd H p o) := Ext.mut hp hu
  refine ⟨fun i ob h => ?_, x.len, x.nd, fun q hq => (x.tab q hq).ext e fun ps h => ?_⟩
  · obtain ⟨l, h1, h2⟩ := x.bx i ob h
    exact ⟨l, h1, h2.keep (RExt.refl _) e fun b ob hb hh => by rw [upd_ne (fun z => hf (by rw [← z]; exact mem_flat h1 hb))]; exact hh⟩
  · have : q.1 ≠ p := fun z => by rw [z, hp] at h; cases h; exact nt ps rfl
    rw [upd_ne this]; exact h
end
end PyD
end
section
set_option Elab.async false
set_option linter.all false
set_option maxRecDepth 100000
set_option maxHeartbeats 2000000
namespace PyD
open PySem PySem.Spec PyProof.Rows L2

mutual
def D.toPy : D → Option PyData
  | .non => some .none
  | .bl b => some (.bool b)
  | .int i => some (.int i)
  | .str x => some (.str x)
  | .tup ds => match D.toPys ds with | some xs => some (.tuple xs) | none => none
  | .lst ds => match D.toPys ds with | some xs => some (.list xs) | none => none
  | _ => none
def D.toPys : List D → Option (List PyData)
  | [] => some []
  | d :: ds => match D.toPy d, D.toPys ds with | some x, some xs => some (x :: xs) | _, _ => none
end
def D.items : D → Option (List D)
  | .tup ds => some ds
  | .lst ds => some ds
  | .scr is => some (is.map D.int)
  | _ => none
def D.isTup : D → Bool
  | .tup _ => true
  | _ => false
def D.ints : List D → Option (List Int)
  | [] => some []
  | .int i :: r => match D.ints r with | some is => some (i :: is) | none => none
  | _ :: _ => none
/-- Python's ==, of plain data -/
def eqD (a b : D) : Option Bool := match a.toPy, b.toPy with
  | some x, some y => if SeqAt.shaped x && SeqAt.shaped y then some (PyData.eqv x y) else none
  | _, _ => none
def truth : D → Option Bool
  | .bl b => some b
  | _ => none
/-- i < b, -b ≤ i: said so that nothing great is counted down -/
def ltI (b : Nat) : Int → Bool
  | .ofNat n => Nat.blt n b
  | .negSucc _ => true
def geI (b : Nat) : Int → Bool
  | .ofNat _ => true
  | .negSucc n => Nat.blt n b
theorem ltI_iff {b : Nat} {i : Int} : ltI b i = true ↔ i < (b : Int) := by
  cases i with
  | ofNat n => simp only [ltI, Nat.blt_eq, Int.ofNat_eq_natCast]; omega
  | negSucc n => simp only [ltI, true_iff]; omega
theorem geI_iff {b : Nat} {i : Int} : geI b i = true ↔ -(b : Int) ≤ i := by
  cases i with
  | ofNat n => simp only [geI, true_iff, Int.ofNat_eq_natCast]; omega
  | negSucc n => simp only [geI, Nat.blt_eq]; omega
def smallI (i : Int) : Bool := geI (2 ^ 64 - 1) i && ltI (2 ^ 64) i
theorem smallI_iff {i : Int} : smallI i = true ↔ -(2 ^ 64) < i ∧ i < 2 ^ 64 := by
  simp only [smallI, Bool.and_eq_true, ltI_iff, geI_iff]
  omega
def binD : Operator → D → D → Option (Bool × D)
  | .Add, .int i, .int j => some (false, .int (i + j))
  | .Add, .lst a, .lst b => if decide (a.length + b.length ≤ sizeLine) then some (true, .lst (a ++ b)) else none
  | .Add, .tup a, .tup b => if decide (a.length + b.length ≤ sizeLine) then some (false, .tup (a ++ b)) else none
  | .Add, .str a, .str b => if decide (a.length + b.length ≤ sizeLine) then some (false, .str (a ++ b)) else none
  | .Sub, .int i, .int j => some (false, .int (i - j))
  | .Mult, .int i, .int j => if smallI i || smallI j then some (false, .int (i * j)) else none
  | .Mult, .lst a, .int j => if decide (0 ≤ j) && ltI (2 ^ 63) j && decide (a.length * j.toNat ≤ sizeLine) then some (true, .lst (List.replicate j.toNat a).flatten) else none
  | .FloorDiv, .int i, .int j => if decide (0 < j) && ltI (2 ^ 30) j then some (false, .int (i / j)) else none
  | .Mod, .int i, .int j => if decide (0 < j) then some (false, .int (i % j)) else none
  | .Pow, .int i, .int j => if decide (0 ≤ j) && decide (j ≤ 64) && smallI i then some (false, .int (i ^ j.toNat)) else none
  | _, _, _ => none
/-- all of it alike to look through -/
def lookD (a : D) (ds : List D) : Option (PyData × List PyData) := match a.toPy, D.toPys ds with
  | some x, some ps => if SeqAt.shaped x && SeqAt.shaped (.list ps) then some (x, ps) else none
  | _, _ => none
def inD (a : D) (ds : List D) : Option Bool := match lookD a ds with
  | some (x, ps) => some (ps.any fun y => PyData.eqv y x)
  | none => none
def D.isBl (b : Bool) : D → Bool
  | .bl c => c == b
  | _ => false
def D.isNon : D → Bool
  | .non => true
  | _ => false
def cmpD : CmpOp → D → D → Option Bool
  | .Eq, a, b => eqD a b
  | .NotEq, a, b => match eqD a b with | some c => some (!c) | none => none
  | .Lt, .int i, .int j => some (decide (i < j))
  | .LtE, .int i, .int j => some (decide (i ≤ j))
  | .Gt, .int i, .int j => some (decide (j < i))
  | .GtE, .int i, .int j => some (decide (j ≤ i))
  | .Is, a, .bl b => some (a.isBl b)
  | .IsNot, a, .bl b => some (!a.isBl b)
  | .Is, a, .non => some a.isNon
  | .IsNot, a, .non => some (!a.isNon)
  | .In, a, b => match b.items with | some ds => inD a ds | none => none
  | .NotIn, a, b => match b.items with | some ds => (match inD a ds with | some c => some (!c) | none => none) | none => none
  | _, _, _ => none
def ixOf (n : Nat) (i : Int) : Option Nat := ixN n i
def idxD (a b : D) : Option D := match a.items, b with
  | some ds, .int i => atI ds i
  | _, _ => none

def sliceL (ds : List D) (lo hi : Option Int) : List D := (ds.drop (HT.sIx ds.length 0 lo)).take (HT.sIx ds.length ds.length hi - HT.sIx ds.length 0 lo)
def slcD (a : D) (l h : Option Int) : Option (Bool × D) := match a with
  | .lst ds => some (true, .lst (sliceL ds l h))
  | .tup ds => some (false, .tup (sliceL ds l h))
  | _ => none
def revD : D → Option (Bool × D)
  | .lst ds => some (true, .lst ds.reverse)
  | .tup ds => some (false, .tup ds.reverse)
  | _ => none
def isTy (n : String) : D → Bool
  | .bl _ => n == "bool" || n == "int"
  | .int _ => n == "int"
  | .str _ => n == "str"
  | .tup _ => n == "tuple"
  | .lst _ => n == "list"
  | .dic _ => n == "dict"
  | _ => false
/-- the built-in type of a value -/
def tyD : D → Option String
  | .non => some "NoneType"
  | .bl _ => some "bool"
  | .int _ => some "int"
  | .str _ => some "str"
  | .tup _ => some "tuple"
  | .lst _ => some "list"
  | .dic _ => some "dict"
  | _ => none
def knownTy (n : String) : Bool := n == "int" || n == "bool" || n == "str" || n == "tuple" || n == "list" || n == "dict"
def D.bools : List D → Option (List Bool)
  | [] => some []
  | .bl b :: r => match D.bools r with | some bs => some (b :: bs) | none => none
  | _ :: _ => none
def indexOf (x : D) (ds : List D) : Option Nat := match lookD x ds with
  | some (x, ps) => ps.findIdx? fun y => PyData.eqv y x
  | none => none
def countOf (x : D) (ds : List D) : Option Nat := match lookD x ds with
  | some (x, ps) => some (ps.countP fun y => PyData.eqv y x)
  | none => none
def D.py (d : D) : PyData := match d.toPy with | some p => p | none => .none
/-- <= of alike data -/
def leD : D → D → Bool := PySem.W.dataLe false D.py
def tupB : PyData → Bool
  | .tuple (_ :: _) => true
  | _ => false
def othB : PyData → Bool
  | .none => false
  | .tuple _ => false
  | _ => true
def sortableB (ps : List PyData) : Bool := (ps.all fun p => ps.all fun q => PySem.W.alike p q) && (ps.all tupB || ps.all othB) && ps.all fun p => decide (p.depth ≤ 64)
/-- calls of built-in functions and types -/
def biD (f : String) (ds : List D) : Option (Bool × D) := match f, ds with
  | "len", [d] => match d.items with | some l => some (false, .int l.length) | none => none
  | "abs", [.int i] => some (false, .int i.natAbs)
  | "int", [.int i] => some (false, .int i)
  | "int", [.bl b] => some (false, .int (if b then 1 else 0))
  | "bool", [.int i] => some (false, .bl (i != 0))
  | "str", [.int i] => if decide (i.natAbs.log2 < 1920) then some (false, .str (Str.ofString (toString i))) else none
  | "min", [.int i, .int j] => some (false, .int (min i j))
  | "max", [.int i, .int j] => some (false, .int (max i j))
  | "tuple", [d] => match d.items with | some l => some (false, .tup l) | none => none
  | "list", [d] => match d.items with | some l => some (true, .lst l) | none => none
  | "sum", [d] => match d.items with | some l => (match D.ints l with | some s => some (false, .int s.sum) | none => none) | none => none
  | "all", [.lst l] => match D.bools l with | some bs => some (false, .bl (bs.all id)) | none => none
  | "any", [.lst l] => match D.bools l with | some bs => some (false, .bl (bs.any id)) | none => none
  | "sorted", [d] => match d.items with | some l => (match D.toPys l with | some ps => if sortableB ps then some (true, .lst (l.mergeSort leD)) else none | none => none) | none => none
  | "repr", [d] => match d.toPy with | some p => if p.showable && !p.hasDict && decide (p.depth ≤ 64) && decide (p.shown.length ≤ 1000000) then some (false, .str p.shown) else none | none => none
  | "isinstance", [d, .ty n] => if knownTy n && (tyD d).isSome then some (false, .bl (isTy n d)) else none
  | "isinstance", [d, .tup [.ty n, .ty m]] => if knownTy n && knownTy m && (tyD d).isSome then some (false, .bl (isTy n d || isTy m d)) else none
  | _, _ => none
def mtD (m : String) (o : D) (ds : List D) : Option (Bool × D) := match m, ds with
  | "index", [x] => match o.items with | some l => (match indexOf x l with | some k => some (false, .int k) | none => none) | none => none
  | "count", [x] => match o.items with | some l => (match countOf x l with | some k => some (false, .int k) | none => none) | none => none
  | _, _ => none

inductive T where
  | s (i : Nat)
  | t (ts : List T)
mutual
inductive E where
  | v (i : Nat) | b (i : Nat) | o (i : Nat) | c (d : D) | g (x : Str) (d : D) | no
  | bin (op : Operator) (a b : E) | cmp (op : CmpOp) (a b : E) | chn (op op' : CmpOp) (a b c : E)
  | neg (a : E) | not (a : E) | and (a b : E) | or (a b : E) | ite (t a b : E)
  | tup (es : List E) | lst (es : List E) | star (e : E)
  | idx (a b : E) | slc (a lo hi : E) | rev (a : E)
  | bi (f : String) (es : List E) | mt (m : String) (a : E) (es : List E)
  | fld (a : E) (f : Str) | isc (a : E) (c : Str) | bty (n : String) | col (f : String) (it : It)
  | call (f : Str) (es : List E) (perm : List Nat) | mk (cl : Str) (es : List E) (perm : List Nat) | cv (f : E) (es : List E) (kws : List Str)
  | eqi (neg : Bool) (a b : E)
  | comp (e : E) (t : T) (it : It) (cond : List E) (own : List Nat)
  | lam (id : Nat) (caps : List Nat)
  | edic
  | dg (i : Nat) (k : String) | dne (i : Nat) | dpop (i : Nat)
inductive It where
  | seq (e : E) | rng (es : List E) | enu (es : List E) | zip (es : List E) | rev (e : E)
end
/-- what a statement stores to: names, or an item of an owned list -/
inductive TG' where
  | t (t : T)
  | o (i : Nat)
  | p (i : Nat) (ix : E)
inductive S where
  | ex (e : E) | asg (t : T) (e : E) | own (i : Nat) (e : E) | asgs (ts : List TG') (es : List E) | pass | brk
  | put (i : Nat) (ix e : E) | aug (i : Nat) (op : Operator) (e : E) | augp (i : Nat) (ix : E) (op : Operator) (e : E)
  | app (i : Nat) (e : E) | mut (i : Nat) (m : String) (es : List E)
  | pop (t : T) (i : Nat) (es : List E) | apop (j i : Nat) (es : List E)
  | frz (i : Nat)
  | ite (t : E) (a b : List S) | loop (t : T) (it : It) (a : List S) | whl (t : E) (a : List S)
  | ret (e : E) | rai (c : Str) (es : List E)
  | fput (i : Nat) (f : Str) (e : E)
  | catch (i n : Nat) (e : E)
  | dput (i : Nat) (k : String) (e : E)
  | rmkd (i : Nat) (e : E)

mutual
/-- no box and no error within -/
def plainD : D → Bool
  | .box _ => false
  | .exc _ _ => false
  | .tup ds => plainDs ds
  | .lst ds => plainDs ds
  | .dic kvs => plainDK kvs
  | .ins _ fs => plainDF fs
  | _ => true
def plainDs : List D → Bool
  | [] => true
  | d :: ds => plainD d && plainDs ds
def plainDK : List (D × D) → Bool
  | [] => true
  | (_, d) :: ds => plainD d && plainDK ds
def plainDF : List (Str × D) → Bool
  | [] => true
  | (_, d) :: ds => plainD d && plainDF ds
end
/-- what a lambda sees of the slots -/
def pickL (is : List Nat) (loc : Loc) : Loc := (List.range loc.length).map fun i => if is.contains i then (match loc[i]? with | some (some (false, d)) => if plainD d then some (false, d) else none | _ => none) else none
abbrev CloT := Nat → List Nat → List D → G → Res
structure Env' where
  fn : Str → CloT → List D → G → Res
  mkc : Str → CloT → List D → G → Res
  clo : CloT
  mine : List Nat
  caps : Nat → List Nat
  lamD : Nat → Loc → List D → G → Res
  /-- the slots that a lambda reads -/
  capS : Nat → List Nat
  /-- the def's qualified name, with what stands ahead of its lambdas' -/
  qual : Str
  /-- the parameters of the defs, and which of them may be called as values -/
  par : Str → List Str
  vals : List Str
  /-- the classes with an own == -/
  eqs : List Str
  /-- which own exception classes an except clause takes -/
  errs : List Str
  fuel : Nat
  /-- is the one own class the other one, or below it -/
  below : Str → Str → Option Bool
  /-- the same of exceptions' classes -/
  belowX : Str → Str → Option Bool
  /-- the fields that instances of a class may have -/
  field : Str → Str → Bool
  /-- .. that exceptions of a class may have -/
  xfield : Str → Str → Bool
/-- without closures (a comprehension's block) -/
def Env'.nc (Γ : Env') : Env' := { Γ with clo := fun _ _ _ _ => .bad, mine := [], lamD := fun _ _ _ _ => .bad }
def Env'.sub (Γ : Env') (loc : Loc) : CloT := fun id cs args g => if Γ.mine.contains id && (cs == Γ.caps id) then Γ.lamD id (pickL (Γ.capS id) loc) args g else Γ.clo id cs args g

def Res.bind (r : Res) (k : D → G → Res) : Res := match r with
  | .ok _ d g => k d g
  | .ex c fs g => .ex c fs g
  | .bad => .bad
def Res.frz (r : Res) : Res := match r with
  | .ok _ d g => .ok false d g
  | r => r
/-- an argument: a value, or a slot that is read when all are there -/
inductive Arg where
  | v (d : D) | b (i : Nat)
inductive ResA where
  | ok (as : List Arg) (g : G)
  | ex (c : Str) (fs : List (Str × D)) (g : G)
  | bad
inductive ResG where
  | ok (a : Arg) (g : G)
  | ex (c : Str) (fs : List (Str × D)) (g : G)
  | bad
inductive ResL where
  | ok (ds : List D) (g : G)
  | ex (c : Str) (fs : List (Str × D)) (g : G)
  | bad
def Loc.at (loc : Loc) (i : Nat) : Option D := match loc[i]? with
  | some (some (_, d)) => some d
  | _ => none
def Arg.val (loc : Loc) : Arg → Option D
  | .v d => some d
  | .b i => loc.at i
def valsOf (loc : Loc) : List Arg → Option (List D)
  | [] => some []
  | a :: r => match a.val loc, valsOf loc r with | some d, some ds => some (d :: ds) | _, _ => none
def ResG.bind (r : ResG) (k : Arg → G → Res) : Res := match r with
  | .ok a g => k a g
  | .ex c fs g => .ex c fs g
  | .bad => .bad
def opOf (loc : Loc) (sem : List D → Option (Bool × D)) (as : List Arg) (g : G) : Res := match valsOf loc as with
  | some ds => match sem ds with
    | some (own, d) => .ok own d g
    | none => .bad
  | none => .bad
def ResA.op (r : ResA) (loc : Loc) (sem : List D → Option (Bool × D)) : Res := match r with
  | .ok as g => match valsOf loc as with
    | some ds => match sem ds with
      | some (own, d) => .ok own d g
      | none => .bad
    | none => .bad
  | .ex c fs g => .ex c fs g
  | .bad => .bad
/-- arguments for a call: values alone -/
def plainArgs : List Arg → Option (List D)
  | [] => some []
  | .v d :: r => match plainArgs r with | some ds => some (d :: ds) | none => none
  | .b _ :: _ => none
def ResA.call (r : ResA) (k : List D → G → Res) : Res := match r with
  | .ok as g => match plainArgs as with
    | some ds => k ds g
    | none => .bad
  | .ex c fs g => .ex c fs g
  | .bad => .bad
def permL {α : Type} (perm : List Nat) (ds : List α) : List α := if perm.isEmpty then ds else (List.range ds.length).filterMap fun k => (perm.zip ds).lookup k
abbrev permD (perm : List Nat) (ds : List D) : List D := permL perm ds
/-- where the arguments go: the last ones have names -/
def permK (ps : List Str) (n : Nat) (kws : List Str) : List Nat := if kws.isEmpty then [] else List.range (n - kws.length) ++ kws.map fun k => ps.idxOf k
def kwB (ps : List Str) (n : Nat) (kws : List Str) : Bool := kws.isEmpty || (decide (kws.length ≤ n) && kws.all fun k => (ps.drop (n - kws.length)).contains k)
def setT (own : Bool) : T → D → Loc → Option Loc
  | .s i, d, loc => some (loc.set i (some (own, d)))
  | .t _, _, _ => none
mutual
/-- what is assigned is for good -/
def bindT : T → D → Loc → Option Loc
  | .s i, d, loc => some (loc.set i (some (false, d)))
  | .t ts, .tup ds, loc => bindTs ts ds loc
  | .t _, _, _ => none
def bindTs : List T → List D → Loc → Option Loc
  | [], [], loc => some loc
  | t :: ts, d :: ds, loc => match bindT t d loc with | some l => bindTs ts ds l | none => none
  | _, _, _ => none
end
def wipeL (loc : Loc) : List Nat → Loc
  | [] => loc
  | i :: r => (wipeL loc r).set i none
def small62 (i : Int) : Bool := geI (2 ^ 62) i && ltI (2 ^ 62) i
theorem small62_iff {i : Int} : small62 i = true ↔ -(2 ^ 62) ≤ i ∧ i < 2 ^ 62 := by
  simp only [small62, Bool.and_eq_true, ltI_iff, geI_iff]
  omega
def rngD : List D → Option (List D)
  | [.int n] => if small62 n then some ((List.range n.toNat).map fun (k : Nat) => D.int (0 + (k : Int))) else none
  | [.int a, .int b] => if small62 a && small62 b then some ((List.range (b - a).toNat).map fun (k : Nat) => D.int (a + (k : Int))) else none
  | [.int a, .int b, .int c] => if decide (c = -1) && (small62 a && small62 b) then some ((List.range (a - b).toNat).map fun (k : Nat) => D.int (a + (k : Int) * (-1))) else none
  | _ => none
def enuD (k : Int) : List D → List D
  | [] => []
  | d :: r => .tup [.int k, d] :: enuD (k + 1) r
def enuA : List D → Option (List D)
  | [d] => match d.items with | some ds => some (enuD 0 ds) | none => none
  | [d, .int k] => if small62 k then (match d.items with | some ds => some (enuD k ds) | none => none) else none
  | _ => none
def zipD : List (List D) → Option (List D)
  | [a, b] => some ((a.zip b).map fun p => .tup [p.1, p.2])
  | [a, b, c] => some ((a.zip (b.zip c)).map fun p => .tup [p.1, p.2.1, p.2.2])
  | _ => none
/-- the list that a comprehension makes -/
def compD (f : D → G → Res) (test : D → G → Res) : List D → G → ResL
  | [], g => .ok [] g
  | x :: r, g => match test x g with
    | .ok _ t g1 => match truth t with
      | some true => match f x g1 with
        | .ok _ d g2 => match compD f test r g2 with
          | .ok ds g3 => .ok (d :: ds) g3
          | _ => .bad
        | _ => .bad
      | some false => compD f test r g1
      | none => .bad
    | _ => .bad
def itemsAll : List D → Option (List (List D))
  | [] => some []
  | d :: r => match d.items, itemsAll r with | some l, some ls => some (l :: ls) | _, _ => none
def zipA (ds : List D) : Option (List D) := match itemsAll ds with
  | some ls => zipD ls
  | none => none
/-- one argument, from what it is worth as an expression -/
def gA (e : E) (loc : Loc) (g : G) (r : Res) : ResG := match e with
  | .b i => match loc.at i with | some _ => .ok (.b i) g | none => .bad
  | .no => .ok (.v .non) g
  | _ => match r with
    | .ok _ d g1 => .ok (.v d) g1
    | .ex c fs g1 => .ex c fs g1
    | .bad => .bad
/-- a slice's part -/
inductive ResP where
  | ok (o : Option Int) (g : G)
  | ex (c : Str) (fs : List (Str × D)) (g : G)
  | bad
def gP (e : E) (g : G) (r : Res) : ResP := match e with
  | .no => .ok none g
  | _ => match r with
    | .ok _ (.int i) g1 => .ok (some i) g1
    | .ex c fs g1 => .ex c fs g1
    | _ => .bad
def ResP.bind (r : ResP) (k : Option Int → G → Res) : Res := match r with
  | .ok o g => k o g
  | .ex c fs g => .ex c fs g
  | .bad => .bad
def sem2 (f : D → D → Option (Bool × D)) : List D → Option (Bool × D)
  | [x, y] => f x y
  | _ => none
def semB (f : D → D → Option Bool) : List D → Option (Bool × D)
  | [x, y] => match f x y with | some c => some (false, .bl c) | none => none
  | _ => none
def semV (f : D → D → Option D) : List D → Option (Bool × D)
  | [x, y] => match f x y with | some d => some (false, d) | none => none
  | _ => none
def sem3 (l h : Option Int) : List D → Option (Bool × D)
  | [x] => slcD x l h
  | _ => none
def semR : List D → Option (Bool × D)
  | [x] => revD x
  | _ => none
/-- isinstance(x, c), c an own class -/
def iscD (ok ok2 : Str → Str → Option Bool) (c : Str) : D → Option Bool
  | .ins c' _ => ok c' c
  | .exc c' _ => ok2 c' c
  | x => if (tyD x).isSome then some false else none
def semF (ok ok2 : Str → Str → Bool) (f : Str) : List D → Option (Bool × D)
  | [.ins c fs] => if ok c f then (match fs.lookup f with | some d => some (false, d) | none => none) else none
  | [.exc c fs] => if ok2 c f then (match fs.lookup f with | some d => some (false, d) | none => none) else none
  | _ => none
def semM (m : String) : List D → Option (Bool × D)
  | o :: r => mtD m o r
  | _ => none
/-- == of instances -/
def eqiK (Γ : Env') (neg : Bool) (loc : Loc) : D → D → G → Res
  | .ins c fs, .ins c' gs, g => if Γ.eqs.contains c && decide (c = c') then (Γ.fn (c ++ ".__eq__") (Γ.sub loc) [.ins c fs, .ins c' gs] g).bind fun r g3 => match r with | .bl t => .ok false (.bl (if neg then !t else t)) g3 | _ => .bad else .bad
  | _, _, _ => .bad
/-- the draw that a slot holds -/
def drwAt (loc : Loc) (g : G) (i : Nat) : Option (Nat × List Int × Int × List Int × Int) := match loc[i]? with
  | some (some (false, .box n)) => match g.bx[n]? with
    | some (.drw large rest cells turn) => some (n, large, rest, cells, turn)
    | _ => none
  | _ => none
mutual
def den (Γ : Env') : E → Loc → G → Res
  | .v i, loc, g => match loc[i]? with | some (some (false, d)) => .ok false d g | _ => .bad
  | .b _, _, _ => .bad
  | .o i, loc, g => match loc[i]? with | some (some (own, d)) => .ok own d g | _ => .bad
  | .c d, _, g => .ok false d g
  | .g _ d, _, g => .ok false d g
  | .no, _, _ => .bad
  | .star _, _, _ => .bad
  | .bin op a b, loc, g => (gA a loc g (den Γ a loc g)).bind fun x g1 => (gA b loc g1 (den Γ b loc g1)).bind fun y g2 => opOf loc (sem2 (binD op)) [x, y] g2
  | .cmp op a b, loc, g => (gA a loc g (den Γ a loc g)).bind fun x g1 => (gA b loc g1 (den Γ b loc g1)).bind fun y g2 => opOf loc (semB (cmpD op)) [x, y] g2
  | .chn op op' a b c, loc, g => (den Γ a loc g).bind fun x g1 => (den Γ b loc g1).bind fun y g2 => match cmpD op x y with
    | some true => (den Γ c loc g2).bind fun z g3 => match cmpD op' y z with | some r => .ok false (.bl r) g3 | none => .bad
    | some false => .ok false (.bl false) g2
    | none => .bad
  | .neg a, loc, g => (den Γ a loc g).bind fun x g1 => match x with | .int i => .ok false (.int (-i)) g1 | _ => .bad
  | .not a, loc, g => (den Γ a loc g).bind fun x g1 => match truth x with | some c => .ok false (.bl (!c)) g1 | none => .bad
  | .and a b, loc, g => (den Γ a loc g).bind fun x g1 => match truth x with | some true => den Γ b loc g1 | some false => .ok false x g1 | none => .bad
  | .or a b, loc, g => (den Γ a loc g).bind fun x g1 => match truth x with | some false => den Γ b loc g1 | some true => .ok false x g1 | none => .bad
  | .ite t a b, loc, g => (den Γ t loc g).bind fun x g1 => match truth x with | some true => den Γ a loc g1 | some false => den Γ b loc g1 | none => .bad
  | .tup es, loc, g => (denD Γ es loc g).call fun ds g1 => if decide (ds.length ≤ sizeLine) then .ok false (.tup ds) g1 else .bad
  | .lst es, loc, g => (denD Γ es loc g).call fun ds g1 => if decide (ds.length ≤ sizeLine) then .ok true (.lst ds) g1 else .bad
  | .idx a b, loc, g => (gA a loc g (den Γ a loc g)).bind fun x g1 => (gA b loc g1 (den Γ b loc g1)).bind fun y g2 => opOf loc (semV idxD) [x, y] g2
  | .slc a lo hi, loc, g => (gA a loc g (den Γ a loc g)).bind fun x g1 => (gP lo g1 (den Γ lo loc g1)).bind fun l g2 => (gP hi g2 (den Γ hi loc g2)).bind fun h g3 => opOf loc (sem3 l h) [x] g3
  | .rev a, loc, g => (gA a loc g (den Γ a loc g)).bind fun x g1 => opOf loc semR [x] g1
  | .bi f es, loc, g => (denA Γ es loc g).op loc (biD f)
  | .mt m a es, loc, g => (gA a loc g (den Γ a loc g)).bind fun x g1 => match denA Γ es loc g1 with
    | .ok as g2 => opOf loc (semM m) (x :: as) g2
    | _ => .bad
  | .fld a f, loc, g => (gA a loc g (den Γ a loc g)).bind fun x g1 => opOf loc (semF Γ.field Γ.xfield f) [x] g1
  | .isc a c, loc, g => (den Γ a loc g).bind fun x g1 => match iscD Γ.below Γ.belowX c x with
    | some b => .ok false (.bl b) g1
    | none => .bad
  | .bty n, _, g => .ok false (.ty n) g
  | .col f it, loc, g => match denI Γ it loc g with
    | .ok ds g1 => if decide (ds.length ≤ sizeLine) then (match biD f [.lst ds] with | some (own, d) => .ok own d g1 | none => .bad) else .bad
    | .ex c fs g1 => .ex c fs g1
    | .bad => .bad
  | .call f es perm, loc, g => (denA Γ es loc g).call fun ds g1 => Γ.fn f (Γ.sub loc) (permD perm ds) g1
  | .mk c es perm, loc, g => (denA Γ es loc g).call fun ds g1 => Γ.mkc c (Γ.sub loc) (permD perm ds) g1
  | .cv f es kws, loc, g => (den Γ f loc g).bind fun x g1 => (denA Γ es loc g1).call fun r g2 => match x with
    | .fn x => if Γ.vals.contains x && decide ((Γ.par x).length = es.length) && kwB (Γ.par x) es.length kws then Γ.fn x (Γ.sub loc) (permD (permK (Γ.par x) es.length kws) r) g2 else .bad
    | .clo id cs => if kws.isEmpty then Γ.sub loc id cs r g2 else .bad
    | _ => .bad
  | .eqi neg a b, loc, g => (den Γ a loc g).bind fun x g1 => (den Γ b loc g1).bind fun y g2 => eqiK Γ neg loc x y g2
  | .comp e t it cond own, loc, g => match denI Γ it loc g with
    | .ok ds g1 => match compD (fun x g' => match bindT t x (wipeL loc own) with | some l => den Γ.nc e l g' | none => .bad)
        (fun x g' => match bindT t x (wipeL loc own) with | some l => denC Γ.nc cond l g' | none => .bad) ds g1 with
      | .ok rs g2 => if decide (rs.length < sizeLine) then .ok true (.lst rs) g2 else .bad
      | .ex c fs g2 => .ex c fs g2
      | .bad => .bad
    | .ex c fs g1 => .ex c fs g1
    | .bad => .bad
  | .edic, _, g => .ok false (.dic []) g
  | .dg i k, loc, g => match drwAt loc g i with
    | some (_, large, rest, cells, turn) => if k = "rest" then .ok false (.int rest) g else if k = "turn" then .ok false (.int turn) g else if k = "cells" then .ok false (.lst (cells.map D.int)) g else .bad
    | none => .bad
  | .dne i, loc, g => match drwAt loc g i with
    | some (_, large, rest, cells, turn) => (match cmpD .NotEq (.lst (large.map D.int)) (.lst []) with | some b => .ok false (.bl b) g | none => .bad)
    | none => .bad
  | .dpop i, loc, g => match drwAt loc g i with
    | some (n, z :: large, rest, cells, turn) => .ok false (.int z) ⟨g.bx.set n (.drw large rest cells turn)⟩
    | _ => .bad
  | .lam id _, _, g => if Γ.mine.contains id then .ok false (.clo id (Γ.caps id)) g else .bad
/-- arguments -/
def denA (Γ : Env') : List E → Loc → G → ResA
  | [], _, g => .ok [] g
  | e :: r, loc, g => match gA e loc g (den Γ e loc g) with
    | .ok a g1 => match denA Γ r loc g1 with | .ok as g2 => .ok (a :: as) g2 | x => x
    | .ex c fs g1 => .ex c fs g1
    | .bad => .bad
/-- items of a display -/
def denD (Γ : Env') : List E → Loc → G → ResA
  | [], _, g => .ok [] g
  | .star e :: r, loc, g => match den Γ e loc g with
    | .ok _ d g1 => match d.items with
      | some ds => match denD Γ r loc g1 with | .ok as g2 => .ok (ds.map .v ++ as) g2 | x => x
      | none => .bad
    | .ex c fs g1 => .ex c fs g1
    | .bad => .bad
  | e :: r, loc, g => match den Γ e loc g with
    | .ok _ d g1 => match denD Γ r loc g1 with | .ok as g2 => .ok (.v d :: as) g2 | x => x
    | .ex c fs g1 => .ex c fs g1
    | .bad => .bad
/-- tests of a comprehension -/
def denC (Γ : Env') : List E → Loc → G → Res
  | [], _, g => .ok false (.bl true) g
  | [e], loc, g => den Γ e loc g
  | _ :: _ :: _, _, _ => .bad
/-- what is walked -/
def denI (Γ : Env') : It → Loc → G → ResL
  | .seq e, loc, g => match gA e loc g (den Γ e loc g) with
    | .ok a g1 => match a.val loc with
      | some d => match d.items with | some ds => .ok ds g1 | none => .bad
      | none => .bad
    | .ex c fs g1 => .ex c fs g1
    | .bad => .bad
  | .rng es, loc, g => match denA Γ es loc g with
    | .ok as g1 => match valsOf loc as with
      | some ds => match rngD ds with | some l => .ok l g1 | none => .bad
      | none => .bad
    | .ex c fs g1 => .ex c fs g1
    | .bad => .bad
  | .enu es, loc, g => match denA Γ es loc g with
    | .ok as g1 => match valsOf loc as with
      | some ds => match enuA ds with | some l => .ok l g1 | none => .bad
      | none => .bad
    | .ex c fs g1 => .ex c fs g1
    | .bad => .bad
  | .zip es, loc, g => match denA Γ es loc g with
    | .ok as g1 => match valsOf loc as with
      | some ds => match zipA ds with | some l => .ok l g1 | none => .bad
      | none => .bad
    | .ex c fs g1 => .ex c fs g1
    | .bad => .bad
  | .rev e, loc, g => match gA e loc g (den Γ e loc g) with
    | .ok a g1 => match a.val loc with
      | some d => match d.items with | some ds => .ok ds.reverse g1 | none => .bad
      | none => .bad
    | .ex c fs g1 => .ex c fs g1
    | .bad => .bad
end

mutual
/-- no box within -/
def noBox : D → Bool
  | .box _ => false
  | .tup ds => noBoxs ds
  | .lst ds => noBoxs ds
  | .ins _ fs => noBoxF fs
  | .exc _ fs => noBoxF fs
  | .dic kvs => noBoxK kvs
  | _ => true
def noBoxs : List D → Bool
  | [] => true
  | d :: ds => noBox d && noBoxs ds
def noBoxK : List (D × D) → Bool
  | [] => true
  | (_, d) :: ds => noBox d && noBoxK ds
def noBoxF : List (Str × D) → Bool
  | [] => true
  | (_, d) :: ds => noBox d && noBoxF ds
end
def boxFlat : List Ob → Bool
  | [] => true
  | .ins _ fs :: r => noBoxF fs && boxFlat r
  | .drw _ _ _ _ :: r => boxFlat r
/-- a class called: a new box, its __init__, the box taken away -/
def unbox (n : Nat) (g : G) (k : Ob → G → Res) : Res := if decide (g.bx.length = n + 1) && boxFlat g.bx then (match g.bx.getLast? with | some ob => k ob ⟨g.bx.dropLast⟩ | none => .bad) else .bad
def mkR (c : Str) (F0 : CloT → List D → G → Res) : CloT → List D → G → Res := fun ct ds g => match F0 ct (.box g.bx.length :: ds) ⟨g.bx ++ [.ins c []]⟩ with
  | .ok false .non g' => unbox g.bx.length g' fun ob g2 => match ob with | .ins c' fs => .ok false (.ins c' fs) g2 | _ => .bad
  | .ex c2 fs g' => if noBoxF fs then unbox g.bx.length g' fun _ g2 => .ex c2 fs g2 else .bad
  | _ => .bad
/-- f = d among the fields -/
def putD (f : Str) (d : D) : List (Str × D) → List (Str × D)
  | [] => [(f, d)]
  | (g, x) :: r => if g = f then (g, d) :: r else (g, x) :: putD f d r
inductive ResS where
  | nx (loc : Loc) (g : G)
  | rt (own : Bool) (d : D) (g : G)
  | bk (loc : Loc) (g : G)
  | ex (c : Str) (fs : List (Str × D)) (g : G)
  | bad
def Res.st (r : Res) (k : Bool → D → G → ResS) : ResS := match r with
  | .ok own d g => k own d g
  | .ex c fs g => .ex c fs g
  | .bad => .bad
def ResA.st (r : ResA) (loc : Loc) (k : List D → G → ResS) : ResS := match r with
  | .ok as g => match valsOf loc as with | some ds => k ds g | none => .bad
  | .ex c fs g => .ex c fs g
  | .bad => .bad
def ResL.st (r : ResL) (k : List D → G → ResS) : ResS := match r with
  | .ok ds g => k ds g
  | .ex c fs g => .ex c fs g
  | .bad => .bad
/-- the owned list in a slot -/
def ownL (loc : Loc) (i : Nat) : Option (List D) := match loc[i]? with
  | some (some (true, .lst ds)) => some ds
  | _ => none
def setL (loc : Loc) (i : Nat) (ds : List D) : Loc := loc.set i (some (true, .lst ds))
/-- values with their ownership, one after another -/
inductive ResO where
  | ok (ds : List (Bool × D)) (g : G)
  | ex (c : Str) (fs : List (Str × D)) (g : G)
  | bad
def isO : TG' → Bool
  | .o _ => true
  | _ => false
def Res.keep (r : Res) (k : Bool) : Res := if k then r else r.frz
def denO (Γ : Env') : List TG' → List E → Loc → G → ResO
  | [], [], _, g => .ok [] g
  | t :: ts, e :: r, loc, g => match (den Γ e loc g).keep (isO t) with
    | .ok own d g1 => match denO Γ ts r loc g1 with | .ok ds g2 => .ok ((own, d) :: ds) g2 | x => x
    | .ex c fs g1 => .ex c fs g1
    | .bad => .bad
  | _, _, _, _ => .bad
def storeG (Γ : Env') : List TG' → List (Bool × D) → Loc → G → ResS
  | [], [], loc, g => .nx loc g
  | .o i :: ts, (own, d) :: ds, loc, g => storeG Γ ts ds (loc.set i (some (own, d))) g
  | .t us :: ts, (false, d) :: ds, loc, g => match bindT us d loc with | some l => storeG Γ ts ds l g | none => .bad
  | .p i ix :: ts, (_, d) :: ds, loc, g => match ownL loc i with
    | some l => (den Γ ix loc g).st fun _ x g1 => match x with
      | .int k => match ixOf l.length k with | some n => storeG Γ ts ds (setL loc i (l.set n d)) g1 | none => .bad
      | _ => .bad
    | none => .bad
  | _, _, _, _ => .bad
def loopD (bind : D → Loc → Option Loc) (body : Loc → G → ResS) : List D → Loc → G → ResS
  | [], loc, g => .nx loc g
  | x :: r, loc, g => match bind x loc with
    | some l => match body l g with
      | .nx l' g' => loopD bind body r l' g'
      | .bk l' g' => .nx l' g'
      | y => y
    | none => .bad
def whlD (test : Loc → G → Res) (body : Loc → G → ResS) : Nat → Loc → G → ResS
  | 0, _, _ => .bad
  | n + 1, loc, g => (test loc g).st fun _ t g1 => match truth t with
    | some true => match body loc g1 with
      | .nx l' g' => whlD test body n l' g'
      | .bk l' g' => .nx l' g'
      | y => y
    | some false => .nx loc g1
    | none => .bad
/-- xs.pop(), xs.pop(k) -/
def popD (l : List D) : List D → Option (D × List D)
  | [] => match l.getLast? with | some d => some (d, l.dropLast) | none => none
  | [.int k] => match ixOf l.length k with
    | some n => match l[n]? with | some d => some (d, l.eraseIdx n) | none => none
    | none => none
  | _ => none
def mutD (m : String) (l : List D) (ds : List D) : Option (List D) := match m, ds with
  | "remove", [x] => match indexOf x l with | some k => some (l.eraseIdx k) | none => none
  | "extend", [d] => match d.items with | some r => if decide (l.length + r.length ≤ sizeLine) then some (l ++ r) else none | none => none
  | "reverse", [] => some l.reverse
  | "clear", [] => some []
  | _, _ => none
mutual
def exe (Γ : Env') : S → Loc → G → ResS
  | .ex e, loc, g => (den Γ e loc g).st fun _ _ g1 => .nx loc g1
  | .asg t e, loc, g => (den Γ e loc g).st fun _ d g1 => match bindT t d loc with | some l => .nx l g1 | none => .bad
  | .own i e, loc, g => (den Γ e loc g).st fun own d g1 => .nx (loc.set i (some (own, d))) g1
  | .asgs ts es, loc, g => match denO Γ ts es loc g with
    | .ok ds g1 => storeG Γ ts ds loc g1
    | .ex c fs g1 => .ex c fs g1
    | .bad => .bad
  | .pass, loc, g => .nx loc g
  | .brk, loc, g => .bk loc g
  | .put i ix e, loc, g => match ownL loc i with
    | some l => (den Γ e loc g).st fun _ d g1 => (den Γ ix loc g1).st fun _ x g2 => match x with
      | .int k => match ixOf l.length k with | some n => .nx (setL loc i (l.set n d)) g2 | none => .bad
      | _ => .bad
    | none => .bad
  | .aug i op e, loc, g => match loc[i]? with
    | some (some (false, x)) => (den Γ e loc g).st fun _ d g1 => match binD op x d with
      | some (false, r) => .nx (loc.set i (some (false, r))) g1
      | _ => .bad
    | _ => .bad
  | .augp i ix op e, loc, g => match ownL loc i with
    | some l => (den Γ ix loc g).st fun _ x g1 => match x with
      | .int k => match ixOf l.length k with
        | some n => match l[n]? with
          | some old => (den Γ e loc g1).st fun _ d g2 => match binD op old d with
            | some (false, r) => .nx (setL loc i (l.set n r)) g2
            | _ => .bad
          | none => .bad
        | none => .bad
      | _ => .bad
    | none => .bad
  | .app i e, loc, g => match ownL loc i with
    | some l => (den Γ e loc g).st fun _ d g1 => if decide (l.length < sizeLine) then .nx (setL loc i (l ++ [d])) g1 else .bad
    | none => .bad
  | .mut i m es, loc, g => match ownL loc i with
    | some l => (denA Γ es loc g).st loc fun ds g1 => match mutD m l ds with | some l' => .nx (setL loc i l') g1 | none => .bad
    | none => .bad
  | .pop t i es, loc, g => match ownL loc i with
    | some l => (denA Γ es loc g).st loc fun ds g1 => match popD l ds with
      | some (d, l') => match bindT t d (setL loc i l') with | some l2 => .nx l2 g1 | none => .bad
      | none => .bad
    | none => .bad
  | .apop j i es, loc, g => match ownL loc i, ownL loc j with
    | some l, some m => (denA Γ es loc g).st loc fun ds g1 => match popD l ds with
      | some (d, l') => if j = i then .bad else if decide (m.length < sizeLine) then .nx (setL (setL loc i l') j (m ++ [d])) g1 else .bad
      | none => .bad
    | _, _ => .bad
  | .frz i, loc, g => match loc[i]? with
    | some (some (_, d)) => .nx (loc.set i (some (false, d))) g
    | _ => .bad
  | .ite t a b, loc, g => (den Γ t loc g).st fun _ x g1 => match truth x with
    | some true => exes Γ a loc g1
    | some false => exes Γ b loc g1
    | none => .bad
  | .loop t it a, loc, g => (denI Γ it loc g).st fun ds g1 => loopD (bindT t) (fun l g' => exes Γ a l g') ds loc g1
  | .whl t a, loc, g => whlD (fun l g' => den Γ t l g') (fun l g' => exes Γ a l g') Γ.fuel loc g
  | .ret e, loc, g => (den Γ e loc g).st fun own d g1 => .rt own d g1
  | .rai c es, loc, g => match denA Γ es loc g with
    | .ok as g1 => match plainArgs as with
      | some ds => match Γ.mkc c Γ.clo ds g1 with
        | .ok _ (.exc c' fs) g2 => .ex c' fs g2
        | _ => .bad
      | none => .bad
    | .ex c fs g1 => .ex c fs g1
    | .bad => .bad
  | .fput i f e, loc, g => match loc[i]? with
    | some (some (false, .box k)) => (den Γ e loc g).st fun _ d g1 => match g1.bx[k]? with
      | some (.ins c fs) => if decide (fs.length < 1000) && Γ.field c f then .nx loc { bx := g1.bx.set k (.ins c (putD f d fs)) } else .bad
      | _ => .bad
    | _ => .bad
  | .dput i k e, loc, g => (den Γ e loc g).st fun _ d g1 => match d, drwAt loc g1 i with
    | .int z, some (n, large, rest, cells, turn) => if k = "rest" then .nx loc ⟨g1.bx.set n (.drw large z cells turn)⟩ else if k = "turn" then .nx loc ⟨g1.bx.set n (.drw large rest cells z)⟩ else .bad
    | _, _ => .bad
  | .rmkd i e, loc, g => match ownL loc i with
    | some l => (den Γ e loc g).st fun _ d g1 => match D.ints l, d with
      | some large, .lst ds => match D.ints ds with
        | some cells => .rt false (.box g1.bx.length) ⟨g1.bx ++ [.drw large 0 cells 0]⟩
        | none => .bad
      | _, _ => .bad
    | none => .bad
  | .catch i n e, loc, g => match den Γ e loc g with
    | .ok _ _ g1 => .nx loc g1
    | .ex c fs g1 => if Γ.errs.contains c then .nx ((loc.set n none).set i (some (false, .exc c fs))) g1 else .bad
    | .bad => .bad
def exes (Γ : Env') : List S → Loc → G → ResS
  | [], loc, g => .nx loc g
  | s :: r, loc, g => match exe Γ s loc g with
    | .nx l' g' => exes Γ r l' g'
    | y => y
end
/-- a def's body, from its arguments -/
def startL (n : Nat) (ds : List D) : Loc := ds.map (fun d => some (false, d)) ++ List.replicate (n - ds.length) none
def ResS.fn (r : ResS) : Res := match r with
  | .nx _ g => .ok false .non g
  | .rt own d g => .ok own d g
  | .ex c fs g => .ex c fs g
  | _ => .bad
/-- a def: how many slots, its body -/
structure Def where
  ps : Nat
  n : Nat
  body : List S
def Def.run (f : Def) (Γ : Env') (ds : List D) (g : G) : Res := if ds.length = f.ps then (exes Γ f.body (startL f.n ds) g).fn else .bad
end PyD
end
section
set_option Elab.async false
set_option linter.all false
set_option maxRecDepth 100000
set_option maxHeartbeats 2000000
namespace PyD
open PySem PySem.Spec PyProof.Rows L2

abbrev EK := Value → Option Addr → Hp → Prop
/-- an exception's own fields -/
def ExcAt (R : RC) (ρ : List (List Addr)) (H : Hp) (dx : Option Addr) (fs : List (Str × D)) : Prop := match dx with
  | none => fs = []
  | some d => ∃ ks, H d = some (.xd ks) ∧ RepF R ρ H fs ks
/-- what must hold so that the answer r is one of Q, its exceptions of E -/
def Ans (R : RC) (T : Tab) (ρ : List (List Addr)) (H : Hp) (r : Res) (Q : VK) (E : EK) : Prop := match r with
  | .ok own d g' => ∀ ρ' v H', Stp R T ρ ρ' H H' g' → RepX R ρ' H' own d v → (own = true → ∀ a, v = .ref a → H a = none ∧ a ∉ ρ'.flatten) → Q v H'
  | .ex c fs g' => ∀ ρ' C dx H', Stp R T ρ ρ' H H' g' → R.mg c = some (.ref C) → ExcAt R ρ' H' dx fs → E (.ref C) dx H'
  | .bad => False
def ArgAt (R : RC) (ρ : List (List Addr)) (H : Hp) (σ : St) : Arg → V → Prop
  | .v d, x => Rep R ρ H d x
  | .b i, x => σ[i]? = some (some x)
inductive ArgsAt (R : RC) (ρ : List (List Addr)) (H : Hp) (σ : St) : List Arg → List V → Prop
  | nil : ArgsAt R ρ H σ [] []
  | cons {a : Arg} {v : V} {as : List Arg} {vs : List V} : ArgAt R ρ H σ a v → ArgsAt R ρ H σ as vs → ArgsAt R ρ H σ (a :: as) (v :: vs)
def AnsG (R : RC) (T : Tab) (ρ : List (List Addr)) (H : Hp) (σ : St) (r : ResG) (Q : VK) (E : EK) : Prop := match r with
  | .ok a g' => ∀ ρ' v H', Stp R T ρ ρ' H H' g' → ArgAt R ρ' H' σ a v → Q v H'
  | .ex c fs g' => ∀ ρ' C dx H', Stp R T ρ ρ' H H' g' → R.mg c = some (.ref C) → ExcAt R ρ' H' dx fs → E (.ref C) dx H'
  | .bad => False
def AnsA (R : RC) (T : Tab) (ρ : List (List Addr)) (H : Hp) (σ : St) (r : ResA) (Q : List V → Hp → Prop) (E : EK) : Prop := match r with
  | .ok as g' => ∀ ρ' vs H', Stp R T ρ ρ' H H' g' → ArgsAt R ρ' H' σ as vs → Q vs H'
  | .ex c fs g' => ∀ ρ' C dx H', Stp R T ρ ρ' H H' g' → R.mg c = some (.ref C) → ExcAt R ρ' H' dx fs → E (.ref C) dx H'
  | .bad => False
/-- the readings -/
def rdE (R : RC) (T : Tab) (W : WX) (f : Loc → G → Res) : TE := fun σ H Q => ∃ ρ loc g, SR R T ρ H loc g σ ∧ Ans R T ρ H (f loc g) Q (fun c dx H' => W c dx σ H')
def rdG (R : RC) (T : Tab) (W : WX) (f : Loc → G → ResG) : TE := fun σ H Q => ∃ ρ loc g, SR R T ρ H loc g σ ∧ AnsG R T ρ H σ (f loc g) Q (fun c dx H' => W c dx σ H')
def rdA (R : RC) (T : Tab) (W : WX) (f : Loc → G → ResA) : TA := fun σ H Q => ∃ ρ loc g, SR R T ρ H loc g σ ∧ AnsA R T ρ H σ (f loc g) Q (fun c dx H' => W c dx σ H')

theorem PE.imp {X : Cx} {e : Expr} {t u : TE} (h : PE X e t) (q : ∀ σ H Q, u σ H Q → t σ H Q) : PE X e u := ⟨fun pins s σ H Q I x => h.run pins s σ H Q I (q σ H Q x)⟩
theorem PA.imp {X : Cx} {e : List Expr} {t u : TA} (h : PA X e t) (q : ∀ σ H Q, u σ H Q → t σ H Q) : PA X e u := ⟨fun p pins s σ H Q I x => h.run p pins s σ H Q I (q σ H Q x)⟩
theorem PT.imp {X : Cx} {e : Expr} {t u : TT} (h : PT X e t) (q : ∀ σ H Q, u σ H Q → t σ H Q) : PT X e u := ⟨fun pins s σ H Q I x => h.run pins s σ H Q I (q σ H Q x)⟩

/-- what the walk knows of a context -/
structure GX (R : RC) (X : Cx) : Prop where
  prog : X.prog = R.P
  w : X.w = R.w
  K : X.K = R.K
  mg : X.mg = R.mg
  base : X.base = R.base
  nd : X.N.Nodup
  calm : X.calm = true
  ga : X.A.guards = some []

section
variable {R : RC} {T : Tab} {ρ ρ' ρ1 : List (List Addr)} {H H' H1 : Hp} {loc : Loc} {g g' g1 : G} {σ : St} {Q Q' : VK} {E : EK} {r : Res}
theorem ExcAt.ext {dx : Option Addr} {fs : List (Str × D)} (x : RExt ρ ρ') (e : Ext H H') (h : ExcAt R ρ H dx fs) : ExcAt R ρ' H' dx fs := by
  cases dx with
  | none => exact h
  | some d =>
    obtain ⟨ks, h1, h2⟩ := h
    exact ⟨ks, e _ _ h1 rfl, RepF.ext x e h2⟩
theorem ArgAt.ext {a : Arg} {v : V} (x : RExt ρ ρ') (e : Ext H H') (h : ArgAt R ρ H σ a v) : ArgAt R ρ' H' σ a v := by
  cases a with
  | v d => exact Rep.ext x e h
  | b i => exact h
theorem ArgsAt.ext (x : RExt ρ ρ') (e : Ext H H') : ∀ {as : List Arg} {vs : List V}, ArgsAt R ρ H σ as vs → ArgsAt R ρ' H' σ as vs
  | _, _, .nil => .nil
  | _, _, .cons h t => .cons (h.ext x e) (ArgsAt.ext x e t)
theorem Ans.mono (h : Ans R T ρ H r Q E) (q : ∀ v H', Q v H' → Q' v H') : Ans R T ρ H r Q' E := by
  cases r with
  | ok own d g' => exact fun ρ' v H' a b c => q _ _ (h ρ' v H' a b c)
  | ex c fs g' => exact h
  | bad => exact h
/-- from a state on -/
theorem Ans.step (st : Stp R T ρ ρ1 H H1 g1) (h : Ans R T ρ H r Q E) : Ans R T ρ1 H1 r Q E := by
  cases r with
  | ok own d g' =>
    refine fun ρ' v H' a b c => h ρ' v H' (st.trans a) b fun ho x hx => ?_
    obtain ⟨c1, c2⟩ := c ho x hx
    exact ⟨st.k.none c1 fun z => c2 (a.n.1.flat (st.n.1.flat z)), c2⟩
  | ex c fs g' => exact fun ρ' C dx H' a b d => h ρ' C dx H' (st.trans a) b d
  | bad => exact h
theorem AnsA.step {ra : ResA} {Q : List V → Hp → Prop} (st : Stp R T ρ ρ1 H H1 g1) (h : AnsA R T ρ H σ ra Q E) : AnsA R T ρ1 H1 σ ra Q E := by
  cases ra with
  | ok as g' => exact fun ρ' v H' a b => h ρ' v H' (st.trans a) b
  | ex c fs g' => exact fun ρ' C dx H' a b d => h ρ' C dx H' (st.trans a) b d
  | bad => exact h
/-- what is known behind the first part -/
theorem Ans.bind {k : D → G → Res} (S : SR R T ρ H loc g σ) (h : Ans R T ρ H (r.frz.bind k) Q E) :
    Ans R T ρ H r.frz (fun v H1 => ∃ ρ1 d g1, Stp R T ρ ρ1 H H1 g1 ∧ Rep R ρ1 H1 d v ∧ SR R T ρ1 H1 loc g1 σ ∧ Ans R T ρ1 H1 (k d g1) Q E) E := by
  cases r with
  | ok own d g' => exact fun ρ' v H' a b c => ⟨ρ', d, g', a, b, a.sr S, Ans.step a h⟩
  | ex c fs g' => exact h
  | bad => exact h
theorem AnsG.bind {ra : ResG} {k : Arg → G → Res} (S : SR R T ρ H loc g σ) (h : Ans R T ρ H (ra.bind k) Q E) :
    AnsG R T ρ H σ ra (fun v H1 => ∃ ρ1 a g1, Stp R T ρ ρ1 H H1 g1 ∧ ArgAt R ρ1 H1 σ a v ∧ SR R T ρ1 H1 loc g1 σ ∧ Ans R T ρ1 H1 (k a g1) Q E) E := by
  cases ra with
  | ok x g' => exact fun ρ' v H' a b => ⟨ρ', x, g', a, b, a.sr S, Ans.step a h⟩
  | ex c fs g' => exact h
  | bad => exact h
theorem Res.frz_bind {k : D → G → Res} : r.frz.bind k = r.bind k := by cases r <;> rfl

/-- readable now -/
inductive RepBs (R : RC) (ρ : List (List Addr)) (H : Hp) : List D → List V → Prop
  | nil : RepBs R ρ H [] []
  | cons {d : D} {v : V} {ds : List D} {vs : List V} : RepB R ρ H d v → RepBs R ρ H ds vs → RepBs R ρ H (d :: ds) (v :: vs)
theorem SR.loc_at (S : SR R T ρ H loc g σ) {i : Nat} {d : D} (h : loc.at i = some d) : ∃ v, σ[i]? = some (some v) ∧ RepB R ρ H d v := by
  unfold Loc.at at h
  split at h
  · rename_i own d' e
    cases h
    obtain ⟨v, h1, h2⟩ := S.sl i own d e
    exact ⟨v, h1, h2.b⟩
  · cases h
theorem arg_val (S : SR R T ρ H loc g σ) {a : Arg} {v : V} {d : D} (h : ArgAt R ρ H σ a v) (e : a.val loc = some d) : RepB R ρ H d v := by
  cases a with
  | v d' => cases e; exact .inl h
  | b i =>
    obtain ⟨v', h1, h2⟩ := S.loc_at e
    have h' : σ[i]? = some (some v) := h
    rw [h'] at h1; cases h1
    exact h2
theorem args_val (S : SR R T ρ H loc g σ) : ∀ {as : List Arg} {vs : List V} {ds : List D}, ArgsAt R ρ H σ as vs → valsOf loc as = some ds → RepBs R ρ H ds vs
  | _, _, ds, .nil, e => by cases e; exact .nil
  | a :: as, v :: vs, ds, .cons h t, e => by
    unfold valsOf at e
    cases e1 : a.val loc with
    | none => rw [e1] at e; cases e
    | some d =>
      cases e2 : valsOf loc as with
      | none => rw [e1, e2] at e; cases e
      | some r =>
        rw [e1, e2] at e; cases e
        exact .cons (arg_val S h e1) (args_val S t e2)
theorem plain_val : ∀ {as : List Arg} {vs : List V} {ds : List D}, ArgsAt R ρ H σ as vs → plainArgs as = some ds → Reps R ρ H ds vs
  | _, _, ds, .nil, e => by cases e; exact .nil
  | .v d :: as, v :: vs, ds, .cons h t, e => by
    unfold plainArgs at e
    cases e2 : plainArgs as with
    | none => rw [e2] at e; cases e
    | some r =>
      rw [e2] at e; cases e
      exact .cons h (plain_val t e2)
  | .b i :: as, v :: vs, ds, .cons h t, e => by cases e

def rOp (R : RC) (T : Tab) (sem : List D → Option (Bool × D)) : List V → Hp → VK → Prop := fun vs H Q => ∃ ρ g ds own d, GR R T ρ H g ∧ RepBs R ρ H ds vs ∧ sem ds = some (own, d) ∧
  ∀ v H', (∀ b o, H b = some o → H' b = some o) → RepX R ρ H' own d v → (own = true → ∀ a, v = .ref a → H a = none) → Q v H'
theorem opOf_ans {sem : List D → Option (Bool × D)} {as : List Arg} {vs : List V} (S : SR R T ρ H loc g σ) (h : Ans R T ρ H (opOf loc sem as g) Q E) (q : ArgsAt R ρ H σ as vs) : rOp R T sem vs H Q := by
  unfold opOf at h
  cases e1 : valsOf loc as with
  | none => rw [e1] at h; exact h.elim
  | some ds =>
    rw [e1] at h
    cases e2 : sem ds with
    | none => simp only [e2] at h; exact h.elim
    | some p =>
      obtain ⟨own, d⟩ := p
      simp only [e2] at h
      refine ⟨ρ, g, ds, own, d, S.gr, args_val S q e1, e2, fun v H' k x f => h ρ v H' (Stp.all S.gr k) x fun ho a ha => ⟨f ho a ha, fun z => ?_⟩⟩
      obtain ⟨o, hz, _⟩ := S.gr.unst z
      rw [f ho a ha] at hz; cases hz
end

section
variable {R : RC} {T : Tab} {X : Cx} {W : WX} {a b : Expr} {ea eb : E} {pos : Pos}
theorem pe_frz {e : Expr} {f : Loc → G → Res} (h : PE X e (rdE R T W f)) : PE X e (rdE R T W (fun loc g => (f loc g).frz)) := by
  refine ⟨fun pins s σ H Q I ⟨ρ, loc, g, S, q⟩ => ?_⟩
  cases e : f loc g with
  | bad => simp only [e, Res.frz] at q; exact q.elim
  | ex c fs g' =>
    refine h.run pins s σ H Q I ⟨ρ, loc, g, S, ?_⟩
    simp only [e, Res.frz] at q ⊢
    exact q
  | ok own d g' =>
    simp only [e, Res.frz] at q
    cases own with
    | false =>
      refine h.run pins s σ H Q I ⟨ρ, loc, g, S, ?_⟩
      rw [e]
      exact q
    | true =>
      refine thn (h.run pins s σ H (fun v H1 => ∃ ρ', Stp R T ρ ρ' H H1 g' ∧ RepO R ρ' H1 d v ∧ ∀ a, v = .ref a → H a = none ∧ a ∉ ρ'.flatten) I ⟨ρ, loc, g, S, ?_⟩) fun u s1 ⟨v, H1, I1, r1, ρ', st, ro, fr⟩ => ?_
      · rw [e]
        exact fun ρ' v H' a b c => ⟨ρ', a, b, c rfl⟩
      · cases ro with
        | @lst a ds vs h1 r =>
          obtain ⟨o, J⟩ := Inv.frz I1 h1 trivial
          obtain ⟨f1, f2⟩ := fr a rfl
          have st2 : Stp R T ρ ρ' H (upd H1 a (.frz o (.lst vs))) g' := ⟨st.n, ⟨fun b ob hb h2 h3 => by
              rw [upd_ne (ne_of_none hb f1)]; exact st.k.st b ob hb h2 h3, fun b ps hb => by
              rw [upd_ne (ne_of_none hb f1)]; exact st.k.tb b ps hb⟩, GR.put st.x h1 rfl (fun ps z => by cases z) f2⟩
          have e1 : Ext H1 (upd H1 a (.frz o (.lst vs))) := Ext.mut h1 rfl
          exact ⟨.ref a, _, J, r1, q ρ' (.ref a) _ st2 (.lst ⟨o, upd_same⟩ (Reps.ext (RExt.refl _) e1 r)) fun z => by cases z⟩
        | @ins a C dx c fs ks h1 m r =>
          obtain ⟨o, J⟩ := Inv.frz I1 h1 trivial
          obtain ⟨f1, f2⟩ := fr a rfl
          have st2 : Stp R T ρ ρ' H (upd H1 a (.frz o (.ins C dx ks))) g' := ⟨st.n, ⟨fun b ob hb h2 h3 => by
              rw [upd_ne (ne_of_none hb f1)]; exact st.k.st b ob hb h2 h3, fun b ps hb => by
              rw [upd_ne (ne_of_none hb f1)]; exact st.k.tb b ps hb⟩, GR.put st.x h1 rfl (fun ps z => by cases z) f2⟩
          have e1 : Ext H1 (upd H1 a (.frz o (.ins C dx ks))) := Ext.mut h1 rfl
          exact ⟨.ref a, _, J, r1, q ρ' (.ref a) _ st2 (.ins upd_same m (RepF.ext (RExt.refl _) e1 r)) fun z => by cases z⟩

theorem pe_v {i : Nat} {x : Str} {Γ : Env'} (hN : X.N[i]? = some x) (hv : Vis X.env.scope x) (hd : (x == ("__debug__" : Str)) = false) (hcd : (x == ("__classdict__" : Str)) = false) : PE X (.Name x pos) (rdE R T W (den Γ (.v i))) := by
  refine PE.imp (pe_var (i := i) hN hv hd hcd) fun σ H Q ⟨ρ, loc, g, S, q⟩ => ?_
  unfold den at q
  split at q
  · rename_i d e
    obtain ⟨v, h1, h2⟩ := S.sl i false d e
    exact ⟨v, h1, q ρ v H (Stp.refl S.gr) h2 fun z => by cases z⟩
  · exact q.elim
theorem pe_b {i : Nat} {x : Str} {r : Loc → G → Res} (hN : X.N[i]? = some x) (hv : Vis X.env.scope x) (hd : (x == ("__debug__" : Str)) = false) (hcd : (x == ("__classdict__" : Str)) = false) : PE X (.Name x pos) (rdG R T W (fun loc g => gA (.b i) loc g (r loc g))) := by
  refine PE.imp (pe_var (i := i) hN hv hd hcd) fun σ H Q ⟨ρ, loc, g, S, q⟩ => ?_
  unfold gA at q
  dsimp only at q
  split at q
  · rename_i d e
    obtain ⟨v, h1, h2⟩ := S.loc_at e
    exact ⟨v, h1, q ρ v H (Stp.refl S.gr) h1⟩
  · exact q.elim
/-- an argument that is no slot -/
theorem pe_gA {e : Expr} {t : E} {f : Loc → G → Res} (hb : ∀ loc g r, gA t loc g r = match r with | .ok _ d g1 => .ok (.v d) g1 | .ex c fs g1 => .ex c fs g1 | .bad => .bad) (h : PE X e (rdE R T W f)) : PE X e (rdG R T W (fun loc g => gA t loc g (f loc g))) := by
  refine PE.imp (pe_frz h) fun σ H Q ⟨ρ, loc, g, S, q⟩ => ⟨ρ, loc, g, S, ?_⟩
  dsimp only at q ⊢
  rw [hb] at q
  cases e1 : f loc g with
  | ok own d g' =>
    rw [e1] at q
    exact fun ρ' v H' a b c => q ρ' v H' a b
  | ex c fs g' => rw [e1] at q; exact q
  | bad => rw [e1] at q; exact q

theorem two_op {fa fb : Loc → G → ResG} {sem : List D → Option (Bool × D)} {σ : St} {H : Hp} {Q : VK}
    (h : rdE R T W (fun loc g => (fa loc g).bind fun x g1 => (fb loc g1).bind fun y g2 => opOf loc sem [x, y] g2) σ H Q) :
    rdG R T W fa σ H fun x H1 => rdG R T W fb σ H1 fun y H2 => rOp R T sem [x, y] H2 Q := by
  obtain ⟨ρ, loc, g, S, q⟩ := h
  refine ⟨ρ, loc, g, S, ?_⟩
  have q1 := AnsG.bind S q
  cases ea : fa loc g with
  | bad => rw [ea] at q1; exact q1
  | ex c fs g' => rw [ea] at q1; exact q1
  | ok x g' =>
    rw [ea] at q1
    intro ρ1 v H1 st av
    obtain ⟨ρ2, a2, g2, st2, av2, S2, q2⟩ := q1 ρ1 v H1 st av
    refine ⟨ρ2, loc, g2, S2, ?_⟩
    have q3 := AnsG.bind S2 q2
    cases eb : fb loc g2 with
    | bad => rw [eb] at q3; exact q3
    | ex c fs g' => rw [eb] at q3; exact q3
    | ok y g3 =>
      rw [eb] at q3
      intro ρ3 v3 H3 st3 av3
      obtain ⟨ρ4, a4, g4, st4, av4, S4, q4⟩ := q3 ρ3 v3 H3 st3 av3
      exact opOf_ans S4 q4 (.cons (av2.ext st4.n.1 (st4.ext S2.gr)) (.cons av4 .nil))
theorem pe_bin {op : Operator} {fa fb : Loc → G → ResG} {sem : List D → Option (Bool × D)} (ho : OpR X (binaryOp op) (fun x y H Q => rOp R T sem [x, y] H Q)) (ha : PE X a (rdG R T W fa)) (hb : PE X b (rdG R T W fb)) :
    PE X (.BinOp a op b pos) (rdE R T W (fun loc g => (fa loc g).bind fun x g1 => (fb loc g1).bind fun y g2 => opOf loc sem [x, y] g2)) := PE.imp (pe_op ho ha hb) fun σ H Q h => two_op h
theorem pe_cmp2 {op : CmpOp} {fa fb : Loc → G → ResG} {sem : List D → Option (Bool × D)} (ho : OpR X (compareOp op) (fun x y H Q => rOp R T sem [x, y] H Q)) (hm : behindInMarks op b = false) (ha : PE X a (rdG R T W fa)) (hb : PE X b (rdG R T W fb)) :
    PE X (.Compare a [op] [b] pos) (rdE R T W (fun loc g => (fa loc g).bind fun x g1 => (fb loc g1).bind fun y g2 => opOf loc sem [x, y] g2)) := PE.imp (pe_cmpR ho ha hb hm) fun σ H Q h => two_op h
theorem pe_idx2 {fa fb : Loc → G → ResG} {sem : List D → Option (Bool × D)} (ho : IxR X (fun x y H Q => rOp R T sem [x, y] H Q)) (hs : PlainIx b) (ha : PE X a (rdG R T W fa)) (hb : PE X b (rdG R T W fb)) :
    PE X (.Subscript a b pos) (rdE R T W (fun loc g => (fa loc g).bind fun x g1 => (fb loc g1).bind fun y g2 => opOf loc sem [x, y] g2)) := PE.imp (pe_ix ho ha hb hs) fun σ H Q h => two_op h
end
end PyD
end
section
set_option Elab.async false
set_option linter.all false
set_option maxRecDepth 100000
set_option maxHeartbeats 2000000
namespace PyD
open PySem PySem.Spec PyProof.Rows L2

section
variable {R : RC} {T : Tab} {ρ : List (List Addr)} {H : Hp} {v : V}
theorem RepB.int {i : Int} (h : RepB R ρ H (.int i) v) : v = .int i := by rcases h with h | h <;> cases h; rfl
theorem RepB.bl {b : Bool} (h : RepB R ρ H (.bl b) v) : v = .bl b := by rcases h with h | h <;> cases h; rfl
theorem RepB.str {x : Str} (h : RepB R ρ H (.str x) v) : v = .str x := by rcases h with h | h <;> cases h; rfl
theorem RepB.non (h : RepB R ρ H .non v) : v = .non := by rcases h with h | h <;> cases h; rfl
theorem RepB.ty {n : String} (h : RepB R ρ H (.ty n) v) : v = .ty n := by rcases h with h | h <;> cases h; rfl
theorem RepB.tup {ds : List D} (h : RepB R ρ H (.tup ds) v) : ∃ a vs, v = .ref a ∧ TuL R.K H a vs ∧ Reps R ρ H ds vs := by
  rcases h with h | h <;> cases h
  exact ⟨_, _, rfl, by assumption, by assumption⟩
theorem RepB.lst {ds : List D} (h : RepB R ρ H (.lst ds) v) : ∃ a vs, v = .ref a ∧ SqL R.K H a vs ∧ Reps R ρ H ds vs := by
  rcases h with h | h
  · cases h with | lst h r => exact ⟨_, _, rfl, h.seq, r⟩
  · cases h with | lst h r => exact ⟨_, _, rfl, .inl (.inl h), r⟩
theorem RepB.itemsT {d : D} {ds : List D} (e : d.items = some ds) (h : RepB R ρ H d v) : ∃ a vs, v = .ref a ∧ (SqL R.K H a vs ∨ TuL R.K H a vs) ∧ Reps R ρ H ds vs := by
  cases d <;> simp only [D.items] at e <;> cases e
  · obtain ⟨a, vs, h1, h2, h3⟩ := h.tup; exact ⟨a, vs, h1, .inr h2, h3⟩
  · obtain ⟨a, vs, h1, h2, h3⟩ := h.lst; exact ⟨a, vs, h1, .inl h2, h3⟩
  · rcases h with h | h <;> cases h
    exact ⟨_, _, rfl, .inl (by rename_i h; exact h.seq), Reps.ints _⟩
theorem RepB.itemsK {d : D} {ds : List D} (e : d.items = some ds) (h : RepB R ρ H d v) : ∃ a vs, v = .ref a ∧ ((d.isTup = false ∧ SqL R.K H a vs) ∨ (d.isTup = true ∧ TuL R.K H a vs)) ∧ Reps R ρ H ds vs := by
  cases d <;> simp only [D.items] at e <;> cases e
  · obtain ⟨a, vs, h1, h2, h3⟩ := h.tup; exact ⟨a, vs, h1, .inr ⟨rfl, h2⟩, h3⟩
  · obtain ⟨a, vs, h1, h2, h3⟩ := h.lst; exact ⟨a, vs, h1, .inl ⟨rfl, h2⟩, h3⟩
  · rcases h with h | h <;> cases h
    exact ⟨_, _, rfl, .inl ⟨rfl, by rename_i h; exact h.seq⟩, Reps.ints _⟩
theorem RepB.items {d : D} {ds : List D} (e : d.items = some ds) (h : RepB R ρ H d v) : ∃ a vs, v = .ref a ∧ (SqL R.K H a vs ∨ SqT R.K H a vs) ∧ Reps R ρ H ds vs := by
  obtain ⟨a, vs, h1, h2, h3⟩ := h.itemsT e
  exact ⟨a, vs, h1, h2.imp id TuL.seq, h3⟩
mutual
theorem Rep.dp : ∀ (d : D) (p : PyData) (v : V), d.toPy = some p → Rep R ρ H d v → Dp R.K H v p
  | .non, _, _, e, h => by simp only [D.toPy] at e; cases e; cases h; exact .non
  | .bl b, _, _, e, h => by simp only [D.toPy] at e; cases e; cases h; exact .bl b
  | .int b, _, _, e, h => by simp only [D.toPy] at e; cases e; cases h; exact .int b
  | .str b, _, _, e, h => by simp only [D.toPy] at e; cases e; cases h; exact .str b
  | .tup ds, _, _, e, h => by
    simp only [D.toPy] at e
    cases q : D.toPys ds with
    | none => rw [q] at e; cases e
    | some xs =>
      rw [q] at e; cases e
      cases h with | tup h r => exact .tup h.seq (Reps.dp ds xs _ q r)
  | .lst ds, _, _, e, h => by
    simp only [D.toPy] at e
    cases q : D.toPys ds with
    | none => rw [q] at e; cases e
    | some xs =>
      rw [q] at e; cases e
      cases h with | lst h r => exact .lst h.seq (Reps.dp ds xs _ q r)
  | .dic _, _, _, e, _ => by simp [D.toPy] at e
  | .ins _ _, _, _, e, _ => by simp [D.toPy] at e
  | .exc _ _, _, _, e, _ => by simp [D.toPy] at e
  | .fn _, _, _, e, _ => by simp [D.toPy] at e
  | .ty _, _, _, e, _ => by simp [D.toPy] at e
  | .clo _ _, _, _, e, _ => by simp [D.toPy] at e
  | .box _, _, _, e, _ => by simp [D.toPy] at e
  | .scr _, _, _, e, _ => by simp [D.toPy] at e
theorem Reps.dp : ∀ (ds : List D) (ps : List PyData) (vs : List V), D.toPys ds = some ps → Reps R ρ H ds vs → DpAll R.K H vs ps
  | [], _, _, e, h => by simp only [D.toPys] at e; cases e; cases h; exact .nil
  | d :: ds, _, _, e, h => by
    simp only [D.toPys] at e
    cases q1 : d.toPy with
    | none => rw [q1] at e; cases e
    | some x =>
      cases q2 : D.toPys ds with
      | none => rw [q1, q2] at e; cases e
      | some xs =>
        rw [q1, q2] at e; cases e
        cases h with | cons h r => exact .cons (Rep.dp d x _ q1 h) (Reps.dp ds xs _ q2 r)
end
theorem RepB.dp {d : D} {p : PyData} (e : d.toPy = some p) (h : RepB R ρ H d v) : Dp R.K H v p := by
  rcases h with h | h
  · exact Rep.dp d p v e h
  · cases h with
    | lst h r =>
      simp only [D.toPy] at e
      split at e
      · rename_i q; cases e
        exact .lst (.inl (.inl h)) (Reps.dp _ _ _ q r)
      · cases e
    | ins _ _ _ => simp [D.toPy] at e
end

section
variable {R : RC} {T : Tab} {X : Cx}
/-- two values -/
theorem rOp2 {sem : List D → Option (Bool × D)} {x y : V} {H : Hp} {Q : VK} (h : rOp R T sem [x, y] H Q) : ∃ ρ g dx dy own d, GR R T ρ H g ∧ RepB R ρ H dx x ∧ RepB R ρ H dy y ∧ sem [dx, dy] = some (own, d) ∧
  ∀ v H', (∀ b o, H b = some o → H' b = some o) → RepX R ρ H' own d v → (own = true → ∀ a, v = .ref a → H a = none) → Q v H' := by
  obtain ⟨ρ, g, ds, own, d, G, rb, se, q⟩ := h
  cases rb with
  | cons h1 t =>
    cases t with
    | cons h2 t => cases t; exact ⟨ρ, g, _, _, own, d, G, h1, h2, se, q⟩
theorem rOp1 {sem : List D → Option (Bool × D)} {x : V} {H : Hp} {Q : VK} (h : rOp R T sem [x] H Q) : ∃ ρ g dx own d, GR R T ρ H g ∧ RepB R ρ H dx x ∧ sem [dx] = some (own, d) ∧
  ∀ v H', (∀ b o, H b = some o → H' b = some o) → RepX R ρ H' own d v → (own = true → ∀ a, v = .ref a → H a = none) → Q v H' := by
  obtain ⟨ρ, g, ds, own, d, G, rb, se, q⟩ := h
  cases rb with
  | cons h1 t => cases t; exact ⟨ρ, g, _, own, d, G, h1, se, q⟩
theorem smallI_mul {i j : Int} (h : (smallI i || smallI j) = true) : CMul i j := by
  rcases Bool.or_eq_true_iff.mp h with h | h
  · exact .inl (smallI_iff.mp h)
  · exact .inr (smallI_iff.mp h)
/-- a list that was just made -/
theorem made {ρ : List (List Addr)} {H : Hp} {Q : VK} {ds : List D} {vs : List V} {p : Addr} (q : ∀ v H', (∀ b o, H b = some o → H' b = some o) → RepX R ρ H' true (.lst ds) v → (true = true → ∀ a, v = .ref a → H a = none) → Q v H') (hp : H p = none) (r : Reps R ρ H ds vs) : Q (.ref p) (upd H p (.lst vs)) :=
  q _ _ (upd_all hp) (RepO.lst upd_same (Reps.ext (RExt.refl ρ) (Ext.new hp) r)) fun _ a e => by cases e; exact hp
/-- such a tuple on the heap -/
theorem tuple_at {pins : List (Addr × Obj)} {σ : St} {H : Hp} {s : Shared} {a : Addr} {vs : List V} (I : L2.Inv X pins σ H s) (h : TuL X.K H a vs) :
    ∃ (its : List Value) (n : Nat) (sl : Array (Option Value)), Vals vs its ∧ s.heap.get? a = some { cls := .type "tuple", dict := none, data := .seq its.toArray n, slots := sl } ∧ vs.length ≤ sizeLine := by
  rcases h with ⟨o, h, hd⟩ | ⟨o, its, n, h1, h2, h3, h4, h5, h6⟩
  · have q := I.hok a _ h
    obtain ⟨e1, hz, its, rv, o', e2, hc, n, hs⟩ := q
    rw [e1] at e2; cases e2
    obtain ⟨cls, dd, dt, sl⟩ := o
    simp only at hd hc hs
    subst hd hc hs
    exact ⟨its, n, sl, rv, e1, hz⟩
  · have e1 := I.kIn a o h1
    obtain ⟨cls, dd, dt, sl⟩ := o
    simp only at h2 h3 h4
    subst h2 h3 h4
    refine ⟨its.toList, n, sl, h6, by simpa using e1, ?_⟩
    rw [h6.length]; simpa using h5
/-- a tuple that was just laid -/
theorem madeT {ρ : List (List Addr)} {H : Hp} {Q : VK} {ds : List D} {vs : List V} {p : Addr} {o : Obj} (q : ∀ v H', (∀ b o, H b = some o → H' b = some o) → RepX R ρ H' false (.tup ds) v → (false = true → ∀ a, v = .ref a → H a = none) → Q v H') (hp : H p = none) (hd : o.dict = none) (r : Reps R ρ H ds vs) : Q (.ref p) (upd H p (.frz o (.tup vs))) :=
  q _ _ (upd_all hp) (Rep.tup (.inl ⟨o, upd_same, hd⟩) (Reps.ext (RExt.refl ρ) (Ext.new hp) r)) fun z => by cases z
theorem tup_new {pins : List (Addr × Obj)} {σ : St} {H : Hp} {s : Shared} {vs : List V} {its : List Value} {t' : Nat} {Q : VK} (I : L2.Inv X pins σ H s) (rv : Vals vs its) (hz : vs.length ≤ sizeLine) (q : ∀ p (o : Obj), H p = none → o.dict = none → Q (.ref p) (upd H p (.frz o (.tup vs)))) :
    EP X pins σ Q (.ref s.heap.objs.size) { s with heap := s.heap.push { cls := .type "tuple", data := .seq its.toArray }, toks := t' } :=
  ⟨.ref s.heap.objs.size, upd H s.heap.objs.size (.frz { cls := .type "tuple", data := .seq its.toArray } (.tup vs)), I.laid (t' := t') (fun b u e => Heap.get?_push_of_some _ e) (Nat.le_refl _) ⟨Heap.get?_push_size _ rfl, hz, its, rv, ⟨_, Heap.get?_push_size _ rfl, rfl, _, rfl⟩⟩, rfl, q _ _ (I.hok.fresh (Nat.le_refl _)) rfl⟩
theorem flat {ρ : List (List Addr)} {H : Hp} {Q : VK} {d : D} {v : V} (q : ∀ v H', (∀ b o, H b = some o → H' b = some o) → RepX R ρ H' false d v → (false = true → ∀ a, v = .ref a → H a = none) → Q v H') (r : Rep R ρ H d v) : Q v H :=
  q v H (fun _ _ h => h) r fun z => by cases z

/-- a readable, not a written list -/
theorem RepB.lstL {ρ : List (List Addr)} {H : Hp} {ds : List D} {v : V} (h : RepB R ρ H (.lst ds) v) : ∃ a vs, v = .ref a ∧ Rd H a (.lst vs) ∧ Reps R ρ H ds vs := by
  rcases h with h | h
  · cases h with | lst h r => exact ⟨_, _, rfl, .inr h, r⟩
  · cases h with | lst h r => exact ⟨_, _, rfl, .inl h, r⟩
theorem Rd.lst {pins : List (Addr × Obj)} {σ : St} {H : Hp} {s : Shared} {a : Addr} {xs : List V} (I : L2.Inv X pins σ H s) (h : Rd H a (.lst xs)) : xs.length ≤ sizeLine ∧ ∃ (its : List Value) (n : Nat), Vals xs its ∧ xs.length = its.length ∧ s.heap.get? a = some { cls := .type "list", data := .seq its.toArray n } := by
  obtain ⟨z, its, n, r, e⟩ := h.ok I.hok
  exact ⟨z, its, n, r, r.length, e⟩
/-- xs + ys, readable lists -/
theorem op_catL : OpR X (binaryOp .Add) (fun x y H Q => ∃ l b xs zs, x = .ref l ∧ y = .ref b ∧ Rd H l (.lst xs) ∧ Rd H b (.lst zs) ∧ xs.length + zs.length ≤ sizeLine ∧ ∀ p, H p = none → Q (.ref p) (upd H p (.lst (xs ++ zs)))) := by
  intro pins s σ H x y v u Q I rx ry h
  obtain ⟨l, b, xs, zs, rfl, rfl, hH, hB, hz, q⟩ := h
  cases rx
  cases ry
  obtain ⟨z, its, n, r, hl, e⟩ := Rd.lst I hH
  obtain ⟨z2, its2, n2, r2, hl2, e2⟩ := Rd.lst I hB
  refine PySem.P.add_list e e2 ?_ (by rw [List.size_toArray, List.size_toArray]; omega)
  have ea : its.toArray ++ its2.toArray = (its ++ its2).toArray := by simp
  rw [ea]
  exact ⟨.ref _, _, I.lnew (t' := s.toks) (r.append r2) (by rw [List.length_append]; omega), rfl, q _ I.fresh⟩
theorem op_repL : OpR X (binaryOp .Mult) (fun x y H Q => ∃ l k xs, x = .ref l ∧ y = .int k ∧ Rd H l (.lst xs) ∧ -(2 ^ 63) ≤ k ∧ k < 2 ^ 63 ∧ xs.length * k.toNat ≤ sizeLine ∧ ∀ p, H p = none → Q (.ref p) (upd H p (.lst (List.replicate k.toNat xs).flatten))) := by
  intro pins s σ H x y v u Q I rx ry h
  obtain ⟨l, k, xs, rfl, rfl, hH, h1, h2, hz, q⟩ := h
  cases rx
  obtain ⟨t, rfl⟩ := ry
  obtain ⟨z, its, n, r, hl, e⟩ := Rd.lst I hH
  have hlen : its.toArray.size * k.toNat ≤ sizeLine := by rw [List.size_toArray, ← hl]; exact hz
  have hcap : ¬ its.toArray.size * k.toNat > (2 ^ 63 - 1) / 8 := by
    have : (sizeLine : Nat) ≤ (2 ^ 63 - 1) / 8 := by decide
    omega
  have hfit : ¬ (!Builtin.List.listFitsIndex k) = true := by
    rw [fitsIndex_both h1 h2]
    exact Bool.false_ne_true
  have hlong : ¬ Builtin.List.listTooLong (its.toArray.size * k.toNat) = true := by
    rw [notLongL hlen]
    exact Bool.false_ne_true
  have hnew : List.foldl (fun x1 x2 => x1 ++ x2) #[] (List.replicate (if its.toArray.isEmpty = true then 0 else k.toNat) its.toArray) = (List.replicate k.toNat its).flatten.toArray := by
    have f0 : ∀ m : Nat, List.foldl (fun x1 x2 => x1 ++ x2) #[] (List.replicate m its.toArray) = (List.replicate m its).flatten.toArray := fun m => by
      have := foldl_rep its m []
      rw [List.nil_append] at this
      exact this
    rw [f0]
    cases its with
    | nil => simp
    | cons a r' => rw [if_neg (by simp)]
  refine wpAny_binaryOp_repeat_ref (T := "list") (U := "int") (by decide) ⟨_, e, rfl⟩ (fun s' => typeIs_int s' k t) noFill_list_mul F.fills_int_mul F.slot_int_rmul repeat_list F.slot_int_index.lookup
    (call_meets F.slot_int_rmul (typeIs_int s k t) F.entry_int_rmul (F.args_int_rmul_2 _ _) (int___rmul___int_list k t l its.toArray n)
      ⟨e, rfl, ⟨_, e, rfl⟩, call_meets F.slot_list_mul ⟨_, e, rfl⟩ F.entry_list_mul (F.args_list_mul_2 _ _) (AutoListH.list___mul___list_int_3 l its.toArray n k t hfit hcap hlong) ⟨e, ?_⟩⟩)
  rw [hnew]
  exact ⟨.ref _, _, I.lnew (t' := s.toks) (r.rep k.toNat) (by rw [PyProof.Rows.lm_len_rep_flat, Nat.mul_comm]; exact hz), rfl, q _ I.fresh⟩
theorem Reps.rep {ρ : List (List Addr)} {H : Hp} {ds : List D} {vs : List V} (r : Reps R ρ H ds vs) : ∀ n : Nat, Reps R ρ H (List.replicate n ds).flatten (List.replicate n vs).flatten
  | 0 => .nil
  | n + 1 => by
    simp only [List.replicate_succ, List.flatten_cons]
    exact r.append (Reps.rep r n)

theorem op_bin_add (gx : GX R X) : OpR X (binaryOp .Add) (fun x y H Q => rOp R T (sem2 (binD .Add)) [x, y] H Q) := by
  intro pins s σ H x y v u Q I rx ry h
  obtain ⟨ρ, g, dx, dy, own, d, G, r1, r2, se, q⟩ := rOp2 h
  simp only [sem2] at se
  cases dx <;> cases dy <;> simp only [binD] at se <;> try (cases se; done)
  · cases se
    have e1 := r1.int; have e2 := r2.int
    subst e1; subst e2
    exact op_add pins s σ H _ _ v u Q I rx ry ⟨_, _, rfl, rfl, flat q (.int _)⟩
  · split at se
    · cases se
      have e1 := r1.str; have e2 := r2.str
      subst e1; subst e2
      rename_i hs
      exact op_add_str pins s σ H _ _ v u Q I rx ry ⟨_, _, rfl, rfl, of_decide_eq_true hs, flat q (.str _)⟩
    · cases se
  · split at se
    · cases se
      rename_i ds es hs
      obtain ⟨a, vs, rfl, h1, p1⟩ := r1.tup
      obtain ⟨b, us, rfl, h2, p2⟩ := r2.tup
      have hs := of_decide_eq_true hs
      rw [p1.length, p2.length] at hs
      cases rx
      cases ry
      obtain ⟨its, q1, l1, _⟩ := I.tuple (gx.K ▸ h1.seq)
      obtain ⟨its2, q2, l2, _⟩ := I.tuple (gx.K ▸ h2.seq)
      by_cases hx : vs = []
      · subst hx; cases p1; cases q1
        exact cat_tup0 l1 l2 ⟨.ref b, H, I, rfl, flat q (.tup h2 p2)⟩
      · refine HT.cat_tup l1 l2 (fun z => hx (q1.nil_iff.mp z)) (fun z => ?_) (fun z => ?_) (by rw [← q1.length, ← q2.length]; exact hs)
        · have e := q2.nil_iff.mp z
          subst e; cases p2
          rw [List.append_nil] at q
          exact ⟨.ref a, H, I, rfl, flat q (.tup h1 p1)⟩
        · exact tup_new I (q1.append q2) (by rw [List.length_append]; exact hs) fun p o hp hd => madeT q hp hd (p1.append p2)
    · cases se
  · split at se
    · cases se
      rename_i ds es hs
      obtain ⟨a, vs, rfl, h1, p1⟩ := r1.lstL
      obtain ⟨b, us, rfl, h2, p2⟩ := r2.lstL
      have hs := of_decide_eq_true hs
      rw [p1.length, p2.length] at hs
      exact op_catL pins s σ H _ _ v u Q I rx ry ⟨a, b, vs, us, rfl, rfl, h1, h2, hs, fun p hp => made q hp (p1.append p2)⟩
    · cases se
theorem op_bin_sub (gx : GX R X) : OpR X (binaryOp .Sub) (fun x y H Q => rOp R T (sem2 (binD .Sub)) [x, y] H Q) := by
  intro pins s σ H x y v u Q I rx ry h
  obtain ⟨ρ, g, dx, dy, own, d, G, r1, r2, se, q⟩ := rOp2 h
  simp only [sem2] at se
  cases dx <;> cases dy <;> simp only [binD] at se <;> try (cases se; done)
  cases se
  have e1 := r1.int; have e2 := r2.int
  subst e1; subst e2
  exact op_sub pins s σ H _ _ v u Q I rx ry ⟨_, _, rfl, rfl, flat q (.int _)⟩
theorem op_bin_fdiv (gx : GX R X) : OpR X (binaryOp .FloorDiv) (fun x y H Q => rOp R T (sem2 (binD .FloorDiv)) [x, y] H Q) := by
  intro pins s σ H x y v u Q I rx ry h
  obtain ⟨ρ, g, dx, dy, own, d, G, r1, r2, se, q⟩ := rOp2 h
  simp only [sem2] at se
  cases dx <;> cases dy <;> simp only [binD] at se <;> try (cases se; done)
  split at se
  · cases se
    rename_i hs
    have e1 := r1.int; have e2 := r2.int
    subst e1; subst e2
    simp only [Bool.and_eq_true, decide_eq_true_eq, ltI_iff] at hs
    exact op_fdiv pins s σ H _ _ v u Q I rx ry ⟨_, _, rfl, rfl, ⟨hs.1, by have := hs.2; omega⟩, flat q (.int _)⟩
  · cases se
theorem op_bin_mod (gx : GX R X) : OpR X (binaryOp .Mod) (fun x y H Q => rOp R T (sem2 (binD .Mod)) [x, y] H Q) := by
  intro pins s σ H x y v u Q I rx ry h
  obtain ⟨ρ, g, dx, dy, own, d, G, r1, r2, se, q⟩ := rOp2 h
  simp only [sem2] at se
  cases dx <;> cases dy <;> simp only [binD] at se <;> try (cases se; done)
  split at se
  · cases se
    rename_i hs
    have e1 := r1.int; have e2 := r2.int
    subst e1; subst e2
    simp only [decide_eq_true_eq] at hs
    exact op_mod pins s σ H _ _ v u Q I rx ry ⟨_, _, rfl, rfl, hs, flat q (.int _)⟩
  · cases se
theorem op_bin_pow (gx : GX R X) : OpR X (binaryOp .Pow) (fun x y H Q => rOp R T (sem2 (binD .Pow)) [x, y] H Q) := by
  intro pins s σ H x y v u Q I rx ry h
  obtain ⟨ρ, g, dx, dy, own, d, G, r1, r2, se, q⟩ := rOp2 h
  simp only [sem2] at se
  cases dx <;> cases dy <;> simp only [binD] at se <;> try (cases se; done)
  split at se
  · cases se
    rename_i hs
    have e1 := r1.int; have e2 := r2.int
    subst e1; subst e2
    simp only [Bool.and_eq_true, decide_eq_true_eq, smallI_iff] at hs
    exact op_pow pins s σ H _ _ v u Q I rx ry ⟨_, _, rfl, rfl, ⟨hs.1.1, by omega, by omega⟩, flat q (.int _)⟩
  · cases se
theorem op_bin_mul (gx : GX R X) : OpR X (binaryOp .Mult) (fun x y H Q => rOp R T (sem2 (binD .Mult)) [x, y] H Q) := by
  intro pins s σ H x y v u Q I rx ry h
  obtain ⟨ρ, g, dx, dy, own, d, G, r1, r2, se, q⟩ := rOp2 h
  simp only [sem2] at se
  cases dx <;> cases dy <;> simp only [binD] at se <;> try (cases se; done)
  · split at se
    · cases se
      rename_i hs
      have e1 := r1.int; have e2 := r2.int
      subst e1; subst e2
      exact op_mul pins s σ H _ _ v u Q I rx ry ⟨_, _, rfl, rfl, smallI_mul hs, flat q (.int _)⟩
    · cases se
  · split at se
    · cases se
      rename_i ds k hs
      have e2 := r2.int
      subst e2
      obtain ⟨a, vs, rfl, h1, p1⟩ := r1.lstL
      simp only [Bool.and_eq_true, decide_eq_true_eq, ltI_iff] at hs
      rw [p1.length] at hs
      exact op_repL pins s σ H _ _ v u Q I rx ry ⟨a, k, vs, rfl, rfl, h1, by omega, by omega, hs.2, fun p hp => made q hp (p1.rep _)⟩
    · cases se
theorem op_bin (gx : GX R X) (op : Operator) (h : op = .Add ∨ op = .Sub ∨ op = .Mult ∨ op = .FloorDiv ∨ op = .Mod ∨ op = .Pow) : OpR X (binaryOp op) (fun x y H Q => rOp R T (sem2 (binD op)) [x, y] H Q) := by
  rcases h with rfl | rfl | rfl | rfl | rfl | rfl
  · exact op_bin_add gx
  · exact op_bin_sub gx
  · exact op_bin_mul gx
  · exact op_bin_fdiv gx
  · exact op_bin_mod gx
  · exact op_bin_pow gx

theorem op_cmp_eq (gx : GX R X) (hu : X.A.units + 65 < cLine) : OpR X (compareOp .Eq) (fun x y H Q => rOp R T (semB (cmpD .Eq)) [x, y] H Q) := by
  intro pins s σ H x y v u Q I rx ry h
  obtain ⟨ρ, g, dx, dy, own, d, G, r1, r2, se, q⟩ := rOp2 h
  simp only [semB, cmpD, eqD] at se
  split at se
  · rename_i c hc
    split at hc
    · rename_i p1 p2 e1 e2
      split at hc
      · rename_i hs
        cases hc; cases se
        simp only [Bool.and_eq_true] at hs
        exact op_eqD (by omega) pins s σ H _ _ v u Q I rx ry ⟨_, _, gx.K ▸ r1.dp e1, gx.K ▸ r2.dp e2, hs.1, hs.2, flat q (.bl _)⟩
      · cases hc
    · cases hc
  · cases se
theorem op_cmp_ne (gx : GX R X) (hu : X.A.units + 65 < cLine) : OpR X (compareOp .NotEq) (fun x y H Q => rOp R T (semB (cmpD .NotEq)) [x, y] H Q) := by
  intro pins s σ H x y v u Q I rx ry h
  obtain ⟨ρ, g, dx, dy, own, d, G, r1, r2, se, q⟩ := rOp2 h
  simp only [semB, cmpD, eqD] at se
  split at se
  · rename_i c hc
    split at hc
    · rename_i c' hc'
      split at hc'
      · rename_i p1 p2 e1 e2
        split at hc'
        · rename_i hs
          cases hc'; cases hc; cases se
          simp only [Bool.and_eq_true] at hs
          exact op_neD (by omega) pins s σ H _ _ v u Q I rx ry ⟨_, _, gx.K ▸ r1.dp e1, gx.K ▸ r2.dp e2, hs.1, hs.2, flat q (.bl _)⟩
        · cases hc'
      · cases hc'
    · cases hc
  · cases se
theorem op_cmp_int {op : CmpOp} {f : Int → Int → Bool} (ho : OpR X (compareOp op) (rI0 fun i j => .bl (f i j))) (hd : ∀ a b c, cmpD op a b = some c → ∃ i j, a = .int i ∧ b = .int j ∧ c = f i j) : OpR X (compareOp op) (fun x y H Q => rOp R T (semB (cmpD op)) [x, y] H Q) := by
  intro pins s σ H x y v u Q I rx ry h
  obtain ⟨ρ, g, dx, dy, own, d, G, r1, r2, se, q⟩ := rOp2 h
  simp only [semB] at se
  split at se
  · rename_i c hc
    cases se
    obtain ⟨i, j, rfl, rfl, rfl⟩ := hd _ _ _ hc
    have e1 := r1.int; have e2 := r2.int
    subst e1; subst e2
    exact ho pins s σ H _ _ v u Q I rx ry ⟨_, _, rfl, rfl, flat q (.bl _)⟩
  · cases se
theorem cmpD_lt {a b : D} {c : Bool} (h : cmpD .Lt a b = some c) : ∃ i j, a = .int i ∧ b = .int j ∧ c = decide (i < j) := by
  cases a <;> cases b <;> simp only [cmpD] at h <;> cases h
  exact ⟨_, _, rfl, rfl, rfl⟩
theorem cmpD_le {a b : D} {c : Bool} (h : cmpD .LtE a b = some c) : ∃ i j, a = .int i ∧ b = .int j ∧ c = decide (i ≤ j) := by
  cases a <;> cases b <;> simp only [cmpD] at h <;> cases h
  exact ⟨_, _, rfl, rfl, rfl⟩
theorem cmpD_gt {a b : D} {c : Bool} (h : cmpD .Gt a b = some c) : ∃ i j, a = .int i ∧ b = .int j ∧ c = decide (j < i) := by
  cases a <;> cases b <;> simp only [cmpD] at h <;> cases h
  exact ⟨_, _, rfl, rfl, rfl⟩
theorem cmpD_ge {a b : D} {c : Bool} (h : cmpD .GtE a b = some c) : ∃ i j, a = .int i ∧ b = .int j ∧ c = decide (j ≤ i) := by
  cases a <;> cases b <;> simp only [cmpD] at h <;> cases h
  exact ⟨_, _, rfl, rfl, rfl⟩
/-- is with a bool -/
theorem op_isB (neg : Bool) : OpR X (compareOp (if neg then .IsNot else .Is)) (fun x y H Q => ∃ b : Bool, y = .bl b ∧ Q (.bl (if neg then !decide (x = .bl b) else decide (x = .bl b))) H) := by
  intro pins s σ H x y v u Q I rx ry h
  obtain ⟨b, rfl, q⟩ := h
  obtain rfl : u = Value.bool b := ry
  by_cases e : x = .bl b
  · subst e
    obtain rfl : v = Value.bool b := rx
    cases neg with
    | true => exact wpAny_isNot_self rfl ⟨.bl false, H, I, rfl, by simpa using q⟩
    | false => exact wpAny_is_self rfl ⟨.bl true, H, I, rfl, by simpa using q⟩
  · have hv : ¬ v = Value.bool b := fun z => by
      subst z
      cases x <;> first
        | (cases rx; done)
        | (cases rx; exact e rfl)
        | (obtain ⟨t, z⟩ := rx; cases z; done)
    have hp : plainIs v (Value.bool b) = true := by
      cases x <;> first
        | (cases rx; rfl)
        | (obtain ⟨t, z⟩ := rx; subst z; rfl)
    cases neg with
    | true => exact wpAny_isNot_other hp hv ⟨.bl true, H, I, rfl, by simpa [e] using q⟩
    | false => exact wpAny_is_other hp hv ⟨.bl false, H, I, rfl, by simpa [e] using q⟩
theorem Rep.not_bl {ρ : List (List Addr)} {H : Hp} {d : D} {v : V} (h : RepB R ρ H d v) (b : Bool) : decide (v = .bl b) = d.isBl b := by
  cases d <;> first
    | (have e := h.bl; subst e; by_cases q : (‹Bool› = b) <;> simp [q, D.isBl]; done)
    | (refine decide_eq_false fun z => ?_; subst z; rcases h with h | h <;> cases h)
theorem Rep.not_non {ρ : List (List Addr)} {H : Hp} {d : D} {v : V} (h : RepB R ρ H d v) : decide (v = .non) = d.isNon := by
  cases d <;> first
    | (have e := h.non; subst e; rfl)
    | (refine decide_eq_false fun z => ?_; subst z; rcases h with h | h <;> cases h)
theorem op_cmp_is (gx : GX R X) : OpR X (compareOp .Is) (fun x y H Q => rOp R T (semB (cmpD .Is)) [x, y] H Q) := by
  intro pins s σ H x y v u Q I rx ry h
  obtain ⟨ρ, g, dx, dy, own, d, G, r1, r2, se, q⟩ := rOp2 h
  simp only [semB] at se
  split at se
  · rename_i c hc
    cases se
    cases dy <;> simp only [cmpD] at hc <;> try (cases hc; done)
    · have e2 := r2.non; subst e2
      refine op_isN pins s σ H _ _ v u Q I rx ry ⟨rfl, ?_⟩
      rw [Rep.not_non r1]
      have hc := Option.some.inj hc
      rw [hc]
      exact flat q (.bl _)
    · have e2 := r2.bl; subst e2
      refine op_isB false pins s σ H _ _ v u Q I rx ry ⟨_, rfl, ?_⟩
      simp only [Bool.false_eq_true, if_false]
      rw [Rep.not_bl r1]
      have hc := Option.some.inj hc
      rw [hc]
      exact flat q (.bl _)
  · cases se
theorem op_cmp_isnot (gx : GX R X) : OpR X (compareOp .IsNot) (fun x y H Q => rOp R T (semB (cmpD .IsNot)) [x, y] H Q) := by
  intro pins s σ H x y v u Q I rx ry h
  obtain ⟨ρ, g, dx, dy, own, d, G, r1, r2, se, q⟩ := rOp2 h
  simp only [semB] at se
  split at se
  · rename_i c hc
    cases se
    cases dy <;> simp only [cmpD] at hc <;> try (cases hc; done)
    · have e2 := r2.non; subst e2
      refine op_notN pins s σ H _ _ v u Q I rx ry ⟨rfl, ?_⟩
      rw [Rep.not_non r1]
      have hc := Option.some.inj hc
      rw [hc]
      exact flat q (.bl _)
    · have e2 := r2.bl; subst e2
      refine op_isB true pins s σ H _ _ v u Q I rx ry ⟨_, rfl, ?_⟩
      simp only [if_true]
      rw [Rep.not_bl r1]
      have hc := Option.some.inj hc
      rw [hc]
      exact flat q (.bl _)
  · cases se

theorem Reps.atI {ρ : List (List Addr)} {H : Hp} {ds : List D} {vs : List V} {i : Int} {d : D} (r : Reps R ρ H ds vs) (e : L2.atI ds i = some d) : ∃ v, L2.atI vs i = some v ∧ Rep R ρ H d v := by
  unfold L2.atI at e ⊢
  rw [← r.length]
  cases q : ixN ds.length i with
  | none => rw [q] at e; cases e
  | some j =>
    rw [q] at e
    simp only [Option.bind_some] at e ⊢
    exact r.get e
theorem ix_all (gx : GX R X) : IxR X (fun x y H Q => rOp R T (semV idxD) [x, y] H Q) := by
  intro value slice pins s σ H x y v u Q I rx ry h hs
  obtain ⟨ρ, g, dx, dy, own, d, G, r1, r2, se, q⟩ := rOp2 h
  simp only [semV, idxD] at se
  split at se
  · rename_i d' hc
    cases se
    split at hc
    · rename_i ds i e1
      have e2 := r2.int; subst e2
      obtain ⟨a, vs, rfl, hq, r⟩ := r1.items e1
      obtain ⟨w, h1, h2⟩ := r.atI hc
      rcases hq with hq | hq
      · exact ix_list value slice pins s σ H _ _ v u Q I rx ry ⟨a, vs, i, w, rfl, rfl, gx.K ▸ hq, h1, flat q h2⟩ hs
      · exact ix_tup value slice pins s σ H _ _ v u Q I rx ry ⟨a, vs, i, w, rfl, rfl, gx.K ▸ hq, h1, flat q h2⟩ hs
    · cases hc
  · cases se
theorem Reps.cut {ρ : List (List Addr)} {H : Hp} {ds : List D} {vs : List V} (r : Reps R ρ H ds vs) (lo hi : Option Int) : Reps R ρ H (sliceL ds lo hi) (cutV vs lo hi) := by
  unfold sliceL cutV
  rw [r.length]
  exact (r.drop _).take _
/-- a slice, by values -/
def rSl (R : RC) (T : Tab) (x : V) (l h : Option Int) (H : Hp) (Q : VK) : Prop := ∃ ρ g dx own d, GR R T ρ H g ∧ RepB R ρ H dx x ∧ (match dx with | .lst ds => some (true, D.lst (sliceL ds l h)) | .tup ds => some (false, D.tup (sliceL ds l h)) | _ => none) = some (own, d) ∧
  ∀ v H', (∀ b o, H b = some o → H' b = some o) → RepX R ρ H' own d v → (own = true → ∀ a, v = .ref a → H a = none) → Q v H'
theorem sl_all (gx : GX R X) : SlR X (rSl R T) := by
  intro pins s σ H x v vl vu lo hi sl Q I rx hs pl pu h
  obtain ⟨ρ, g, dx, own, d, G, r1, se, q⟩ := h
  cases dx <;> simp only at se <;> try (cases se; done)
  · cases se
    obtain ⟨a, vs, rfl, hq, r⟩ := r1.tup
    have r' := r.cut lo hi
    cases rx
    obtain ⟨its, rv, ht, hz⟩ := I.tuple (gx.K ▸ hq.seq)
    have hlen : its.toArray.size = vs.length := by rw [List.size_toArray]; exact rv.length.symm
    refine ⟨"tuple", _, PyProof.Rows.slot_tuple_getitem.lookup, ht.typeIs, ?_⟩
    by_cases z : HT.sIx vs.length 0 lo = 0 ∧ HT.sIx vs.length vs.length hi = vs.length
    · have e : cutV vs lo hi = vs := by unfold cutV; rw [z.1, z.2]; simp
      rw [e] at r'
      exact getItem_tuple_whole ht hs pl pu (by rw [hlen]; exact z) ⟨.ref a, H, I, rfl, flat q (.tup hq r')⟩
    · refine HT.getItem_tuple_cut ht hs pl pu (by rw [hlen]; exact z) ?_ (by rw [hlen]; exact hz)
      rw [hlen]
      exact tup_new I ((rv.drop (HT.sIx vs.length 0 lo)).take (HT.sIx vs.length vs.length hi - HT.sIx vs.length 0 lo)) (Nat.le_trans (cutV_length vs lo hi) hz) fun p o hp hd => madeT q hp hd r' 
  · cases se
    obtain ⟨a, vs, rfl, hq, r⟩ := r1.lst
    exact sl_list pins s σ H _ v vl vu lo hi sl Q I rx hs pl pu ⟨a, vs, rfl, gx.K ▸ hq, fun p hp => made q hp (r.cut lo hi)⟩
end
end PyD
end
section
set_option Elab.async false
set_option linter.all false
set_option maxRecDepth 100000
set_option maxHeartbeats 4000000
namespace PyD
open PySem PySem.Spec PyProof.Rows L2
section
variable {R : RC} {T : Tab} {X : Cx}
theorem cr_len (gx : GX R X) : CallR X (.builtin "len") (rOp R T (biD "len")) := by
  intro pins s σ H vs us Q I r h
  obtain ⟨ρ, g, ds, own, d, G, rb, se, q⟩ := h
  cases rb with
  | nil => simp [biD] at se
  | cons r1 t =>
    cases t with
    | cons _ _ => simp [biD] at se
    | nil =>
      simp only [biD] at se
      split at se
      · rename_i l e1
        cases se
        obtain ⟨a, vs, rfl, hq, rr⟩ := r1.items e1
        have e2 : (l.length : Int) = vs.length := by rw [rr.length]
        refine call_len_seq pins s σ H _ us Q I r ⟨a, vs, rfl, gx.K ▸ hq, ?_⟩
        rw [← e2]
        exact flat q (.int _)
      · cases se
theorem cr_abs (gx : GX R X) : CallR X (.builtin "abs") (rOp R T (biD "abs")) := by
  intro pins s σ H vs us Q I r h
  obtain ⟨ρ, g, ds, own, d, G, rb, se, q⟩ := h
  cases rb with
  | nil => simp [biD] at se
  | cons r1 t =>
    cases t with
    | cons _ _ => simp [biD] at se
    | nil =>
      rename_i x v
      cases x <;> simp only [biD] at se <;> try (cases se; done)
      cases se
      rename_i i
      have e := r1.int; subst e
      refine call_abs pins s σ H _ us Q I r ⟨i, rfl, ?_⟩
      have e2 : (i.natAbs : Int) = if i < 0 then -i else i := by split <;> omega
      rw [← e2]
      exact flat q (.int _)
theorem cr_int (gx : GX R X) : CallR X (.type "int") (rOp R T (biD "int")) := by
  intro pins s σ H vs us Q I r h
  obtain ⟨ρ, g, ds, own, d, G, rb, se, q⟩ := h
  cases rb with
  | nil => simp [biD] at se
  | cons r1 t =>
    cases t with
    | cons _ _ => simp [biD] at se
    | nil =>
      rename_i x v
      cases x <;> simp only [biD] at se <;> try (cases se; done)
      · cases se
        have e := r1.bl; subst e
        exact call_int1 pins s σ H _ us Q I r (.inr ⟨_, rfl, flat q (.int _)⟩)
      · cases se
        have e := r1.int; subst e
        exact call_int1 pins s σ H _ us Q I r (.inl ⟨_, rfl, flat q (.int _)⟩)
theorem cr_str (gx : GX R X) : CallR X (.type "str") (rOp R T (biD "str")) := by
  intro pins s σ H vs us Q I r h
  obtain ⟨ρ, g, ds, own, d, G, rb, se, q⟩ := h
  cases rb with
  | nil => simp [biD] at se
  | cons r1 t =>
    cases t with
    | cons _ _ => simp [biD] at se
    | nil =>
      rename_i x v
      cases x <;> simp only [biD] at se <;> try (cases se; done)
      split at se <;> cases se
      rename_i hz
      have e := r1.int; subst e
      exact call_str_int pins s σ H _ us Q I r ⟨_, rfl, of_decide_eq_true hz, flat q (.str _)⟩
theorem cr_bool (gx : GX R X) : CallR X (.type "bool") (rOp R T (biD "bool")) := by
  intro pins s σ H vs us Q I r h
  obtain ⟨ρ, g, ds, own, d, G, rb, se, q⟩ := h
  cases rb with
  | nil => simp [biD] at se
  | cons r1 t =>
    cases t with
    | cons _ _ => simp [biD] at se
    | nil =>
      rename_i x v
      cases x <;> simp only [biD] at se <;> try (cases se; done)
      cases se
      have e := r1.int; subst e
      exact call_bool1 pins s σ H _ us Q I r (.inl ⟨_, rfl, flat q (.bl _)⟩)
theorem cr_tuple (gx : GX R X) : CallR X (.type "tuple") (rOp R T (biD "tuple")) := by
  intro pins s σ H vs us Q I r h
  obtain ⟨ρ, g, ds, own, d, G, rb, se, q⟩ := h
  cases rb with
  | nil => simp [biD] at se
  | cons r1 t =>
    cases t with
    | cons _ _ => simp [biD] at se
    | nil =>
      simp only [biD] at se
      split at se
      · rename_i l e1
        cases se
        obtain ⟨a, vs, rfl, hq, rr⟩ := r1.itemsT e1
        rw [Vals.ref1 r]
        rcases hq with hq | hq
        · obtain ⟨its, rv, pl, hz⟩ := I.list (gx.K ▸ hq)
          refine call_tuple_list pl.isList (fun h' hk => ?_) (by rw [List.size_toArray, ← rv.length]; exact hz)
          have I1 := I.kept (h' := h') (t' := s.toks) hk
          exact tup_new (t' := s.toks) I1 rv hz fun p o hp hd => madeT q hp hd rr
        · obtain ⟨its, rv, pl, hz⟩ := I.tuple (gx.K ▸ hq.seq)
          exact call_tuple_tup pl ⟨.ref a, H, I, rfl, flat q (.tup hq rr)⟩
      · cases se
theorem cr_list (gx : GX R X) : CallR X (.type "list") (rOp R T (biD "list")) := by
  intro pins s σ H vs us Q I r h
  obtain ⟨ρ, g, ds, own, d, G, rb, se, q⟩ := h
  cases rb with
  | nil => simp [biD] at se
  | cons r1 t =>
    cases t with
    | cons _ _ => simp [biD] at se
    | nil =>
      simp only [biD] at se
      split at se
      · rename_i l e1
        cases se
        obtain ⟨a, vs, rfl, hq, rr⟩ := r1.items e1
        exact call_list_of pins s σ H _ us Q I r ⟨a, vs, rfl, gx.K ▸ hq, fun p hp => made q hp rr⟩
      · cases se
theorem cr_minmax (gx : GX R X) (b : Bool) : CallR X (.builtin (if b then "max" else "min")) (rOp R T (biD (if b then "max" else "min"))) := by
  intro pins s σ H vs us Q I r h
  obtain ⟨ρ, g, ds, own, d, G, rb, se, q⟩ := h
  cases rb with
  | nil => cases b <;> simp [biD] at se
  | cons r1 t =>
    cases t with
    | nil => cases b <;> simp [biD] at se
    | cons r2 t =>
      cases t with
      | cons _ _ => cases b <;> simp [biD] at se
      | nil =>
        rename_i x vx y vy
        cases x <;> cases y <;> cases b <;> simp only [biD, if_true, Bool.false_eq_true, if_false] at se <;> try (cases se; done)
        · cases se
          rename_i i j
          have e := r1.int; subst e
          have e := r2.int; subst e
          refine call_min2 gx.calm pins s σ H _ us Q I r ⟨i, j, rfl, ?_⟩
          have e2 : min i j = if j < i then j else i := by split <;> omega
          rw [← e2]
          exact flat q (.int _)
        · cases se
          rename_i i j
          have e := r1.int; subst e
          have e := r2.int; subst e
          refine call_max2 gx.calm pins s σ H _ us Q I r ⟨i, j, rfl, ?_⟩
          have e2 : max i j = if j > i then j else i := by split <;> omega
          rw [← e2]
          exact flat q (.int _)
theorem Reps.bools {ρ : List (List Addr)} {H : Hp} : ∀ {ds : List D} {vs : List V} {bs : List Bool}, D.bools ds = some bs → Reps R ρ H ds vs → vs = bs.map V.bl
  | [], _, _, e, .nil => by simp only [D.bools] at e; cases e; rfl
  | d :: ds, v :: vs, bs, e, .cons r t => by
    cases d <;> simp only [D.bools] at e <;> try (cases e; done)
    split at e
    · rename_i bs' e2
      cases e
      cases r
      rw [Reps.bools e2 t]
      rfl
    · cases e
theorem Reps.intsV {ρ : List (List Addr)} {H : Hp} : ∀ {ds : List D} {vs : List V} {is : List Int}, D.ints ds = some is → Reps R ρ H ds vs → vs = is.map V.int
  | [], _, _, e, .nil => by simp only [D.ints] at e; cases e; rfl
  | d :: ds, v :: vs, bs, e, .cons r t => by
    cases d <;> simp only [D.ints] at e <;> try (cases e; done)
    split at e
    · rename_i bs' e2
      cases e
      cases r
      rw [Reps.intsV e2 t]
      rfl
    · cases e

theorem preSum_getD (ns : List Int) : ∀ n, n ≤ ns.length → preSum (fun i => ns.getD i 0) n = (ns.take n).sum
  | 0, _ => rfl
  | n + 1, h => by
    have e : (ns.take (n + 1)).sum = (ns.take n).sum + ns.getD n 0 := by
      rw [List.take_succ]
      have : ns[n]? = some (ns.getD n 0) := by
        rw [List.getD_eq_getElem?_getD, List.getElem?_eq_getElem (by omega)]; rfl
      rw [this]
      simp
    rw [e, ← preSum_getD ns n (by omega)]
    rfl
theorem sum_tuple {pins : List (Addr × Obj)} {s : Shared} {σ : St} {H : Hp} {a : Addr} {ns : List Int} {Q : Value → Shared → Prop} {E : Value → Shared → Prop} (I : L2.Inv X pins σ H s) (hc : X.calm = true) (hq : SqT X.K H a (ns.map V.int))
    (h : ∀ h' tk t', (∀ b o, s.heap.get? b = some o → h'.get? b = some o) → Q (.int ns.sum t') { s with heap := h', toks := tk }) : wpAny (model X.prog X.w) X.A (call (.builtin "sum") [.ref a]) Q E s := by
  obtain ⟨its, rv, pl, hz⟩ := I.tuple hq
  have hi := rv.ints
  have hlt : a < s.heap.objs.size := by obtain ⟨_, e, _⟩ := pl; exact Heap.lt_size e
  have hlen : its.length = ns.length := by have := rv.length; simpa using this.symm
  refine call_sum_walkG (wpAny_pyIter_tuple pl ?_)
  refine ⟨_, _, _, _, _, _, (fun i => ns.getD i 0), rfl, Walks.tuple (A := X.A.in1) (I.ok.hd hc) s.heap.objs.size a (Nat.ne_of_lt hlt) its.toArray, ⟨⟨_, Heap.get?_push_size _ rfl, rfl, rfl⟩, pl.push _⟩, fun b hb => ?_, fun i v hv => ?_, fun h' tk t' hk => ?_⟩
  · rcases List.mem_cons.mp hb with e | hb
    · rw [e]; show _ < (s.heap.push _).objs.size; rw [Heap.size_push]; exact Nat.lt_succ_self _
    · rcases List.mem_cons.mp hb with e | hb
      · rw [e]; show _ < (s.heap.push _).objs.size; rw [Heap.size_push]; exact Nat.lt_succ_of_lt hlt
      · cases hb
  · have hv' : its[i]? = some v := by simpa using hv
    obtain ⟨x, h1, h2⟩ : ∃ x, (ns.map V.int)[i]? = some x ∧ RelV x v := by
      cases q : (ns.map V.int)[i]? with
      | none =>
        have := Vals.none_of rv q
        rw [this] at hv'; cases hv'
      | some x =>
        obtain ⟨u, e1, e2⟩ := Vals.get rv q
        rw [e1] at hv'; cases hv'
        exact ⟨x, rfl, e2⟩
    rw [List.getElem?_map] at h1
    obtain ⟨n, hn, rfl⟩ := Option.map_eq_some_iff.mp h1
    have hg : ns.getD i 0 = n := by rw [List.getD_eq_getElem?_getD, hn]; rfl
    show ∃ t, v = Value.int (ns.getD i 0) t
    rw [hg]
    exact h2
  · rw [List.size_toArray, hlen, preSum_getD ns _ (Nat.le_refl _), List.take_length]
    refine h h' tk t' fun b o eo => hk b o (fun hmem => ?_) (Heap.get?_push_of_some _ eo)
    rcases List.mem_cons.mp hmem with e1 | hmem
    · exact absurd (e1 ▸ Heap.lt_size eo) (Nat.lt_irrefl _)
    · cases hmem
theorem cr_sumD (gx : GX R X) : CallR X (.builtin "sum") (rOp R T (biD "sum")) := by
  intro pins s σ H vs us Q I r h
  obtain ⟨ρ, g, ds, own, d, G, rb, se, q⟩ := h
  cases rb with
  | nil => simp [biD] at se
  | cons r1 t =>
    cases t with
    | cons _ _ => simp [biD] at se
    | nil =>
      simp only [biD] at se
      split at se
      · rename_i l e1
        split at se
        · rename_i is e2
          cases se
          obtain ⟨a, vs, rfl, hq, rr⟩ := r1.items e1
          have e3 := rr.intsV e2
          subst e3
          rcases hq with hq | hq
          · exact cr_sum gx.calm pins s σ H _ us Q I r ⟨a, is, rfl, gx.K ▸ hq, flat q (.int _)⟩
          · rw [Vals.ref1 r]
            exact sum_tuple I gx.calm (gx.K ▸ hq) fun h' tk t' hk => ⟨.int _, H, I.kept hk, ⟨_, rfl⟩, flat q (.int _)⟩
        · cases se
      · cases se
theorem cr_allD (gx : GX R X) : CallR X (.builtin "all") (rOp R T (biD "all")) := by
  intro pins s σ H vs us Q I r h
  obtain ⟨ρ, g, ds, own, d, G, rb, se, q⟩ := h
  cases rb with
  | nil => simp [biD] at se
  | cons r1 t =>
    cases t with
    | cons _ _ => simp [biD] at se
    | nil =>
      rename_i x v
      cases x <;> simp only [biD] at se <;> try (cases se; done)
      split at se
      · rename_i bs e1
        cases se
        obtain ⟨a, vs, rfl, hq, rr⟩ := r1.lst
        have e3 := rr.bools e1
        subst e3
        exact cr_all gx.calm pins s σ H _ us Q I r ⟨a, bs, rfl, gx.K ▸ hq, flat q (.bl _)⟩
      · cases se
theorem cr_anyD (gx : GX R X) : CallR X (.builtin "any") (rOp R T (biD "any")) := by
  intro pins s σ H vs us Q I r h
  obtain ⟨ρ, g, ds, own, d, G, rb, se, q⟩ := h
  cases rb with
  | nil => simp [biD] at se
  | cons r1 t =>
    cases t with
    | cons _ _ => simp [biD] at se
    | nil =>
      rename_i x v
      cases x <;> simp only [biD] at se <;> try (cases se; done)
      split at se
      · rename_i bs e1
        cases se
        obtain ⟨a, vs, rfl, hq, rr⟩ := r1.lst
        have e3 := rr.bools e1
        subst e3
        exact cr_any gx.calm pins s σ H _ us Q I r ⟨a, bs, rfl, gx.K ▸ hq, flat q (.bl _)⟩
      · cases se
end
end PyD
end
section
set_option Elab.async false
set_option linter.all false
set_option maxRecDepth 100000
set_option maxHeartbeats 4000000
namespace PyD
open PySem PySem.Spec PyProof.Rows L2
section
variable {R : RC} {T : Tab} {X : Cx}
/-- a value tells d -/
def Tells (R : RC) (ρ : List (List Addr)) (H : Hp) (u : Value) (d : D) : Prop := ∃ x, RelV x u ∧ Rep R ρ H d x
theorem each_tells {ρ : List (List Addr)} {H : Hp} : ∀ {ds : List D} {vs : List V} {us : List Value}, Reps R ρ H ds vs → Vals vs us → PySem.W.EachIs (Tells R ρ H) us ds
  | [], _, _, .nil, r => by cases r; exact .nil
  | d :: ds, v :: vs, us, .cons h t, r => by
    cases r with
    | cons r1 r2 => exact .cons ⟨v, r1, h⟩ (each_tells t r2)
theorem of_each {ρ : List (List Addr)} {H : Hp} : ∀ {ds : List D} {us : List Value}, PySem.W.EachIs (Tells R ρ H) us ds → ∃ vs, Reps R ρ H ds vs ∧ Vals vs us
  | [], _, .nil => ⟨[], .nil, .nil⟩
  | d :: ds, _, .cons ⟨x, h1, h2⟩ t => by
    obtain ⟨vs, r1, r2⟩ := of_each t
    exact ⟨x :: vs, .cons h2 r1, .cons h1 r2⟩
theorem pys_py : ∀ {ds : List D} {ps : List PyData}, D.toPys ds = some ps → ps = ds.map D.py ∧ ∀ d ∈ ds, d.toPy = some d.py
  | [], ps, e => by simp only [D.toPys] at e; cases e; exact ⟨rfl, fun _ z => by cases z⟩
  | d :: ds, ps, e => by
    simp only [D.toPys] at e
    cases q1 : d.toPy with
    | none => rw [q1] at e; cases e
    | some x =>
      cases q2 : D.toPys ds with
      | none => rw [q1, q2] at e; cases e
      | some xs =>
        rw [q1, q2] at e; cases e
        obtain ⟨h1, h2⟩ := pys_py q2
        have hx : d.py = x := by unfold D.py; rw [q1]
        refine ⟨by rw [List.map_cons, ← h1, hx], fun d' hd => ?_⟩
        rcases List.mem_cons.mp hd with e | hd
        · rw [e, hx]; exact q1
        · exact h2 d' hd
theorem tells_reads {pins : List (Addr × Obj)} {σ : St} {H : Hp} {s : Shared} {ρ : List (List Addr)} {d : D} {u : Value} (gx : GX R X) (I : L2.Inv X pins σ H s) (h : Tells R ρ H u d) (e : d.toPy = some d.py) : ∃ as, Reads s.heap u d.py as := by
  obtain ⟨x, h1, h2⟩ := h
  exact Dp.reads I _ x u (gx.K ▸ Rep.dp d _ x e h2) h1
theorem all_alike {ps : List PyData} (h : (ps.all fun p => ps.all fun q => PySem.W.alike p q) = true) : PySem.W.AllAlike ps := fun d hd e he => by
  have h1 := List.all_eq_true.mp h d hd
  exact List.all_eq_true.mp h1 e he
theorem sortable_of {ps : List PyData} (h : (ps.all tupB || ps.all othB) = true) : PySem.W.Sortable ps := by
  rcases Bool.or_eq_true_iff.mp h with h | h
  · refine .inl fun d hd => ?_
    have q := List.all_eq_true.mp h d hd
    cases d <;> simp [tupB] at q
    rename_i xs
    cases xs with
    | nil => simp [tupB] at q
    | cons x r => exact ⟨x, r, rfl⟩
  · refine .inr fun d hd => ?_
    have q := List.all_eq_true.mp h d hd
    cases d <;> simp [othB] at q <;> exact ⟨fun z => (by cases z), fun xs z => (by cases z)⟩
open PySem.W in
/-- sorted of a list or a tuple of alike data -/
theorem sorted_seq {pins : List (Addr × Obj)} {s : Shared} {σ : St} {H : Hp} {ρ : List (List Addr)} {a : Addr} {Ty : String} {o : Obj} {its : List Value} {n : Nat} {ds : List D} {vs : List V} {Q : VK} (gx : GX R X) (I : L2.Inv X pins σ H s)
    (hT : Ty = "list" ∨ Ty = "tuple") (ho : s.heap.get? a = some o) (hc : o.cls = .type Ty) (hd : o.data = .seq its.toArray n) (hL : its.length ≤ sizeLine) (rv : Vals vs its) (r : Reps R ρ H ds vs)
    (hp : D.toPys ds = some (ds.map D.py)) (hs : sortableB (ds.map D.py) = true) (hu : X.A.units + 70 < cLine)
    (h : ∀ (p : Addr) (vs' : List V), H p = none → Reps R ρ H (ds.mergeSort leD) vs' → Q (V.ref p) (upd H p (.lst vs'))) :
    wpAny (model X.prog X.w) X.A (call (.builtin "sorted") [.ref a]) (EP X pins σ Q) X.xe s := by
  simp only [sortableB, Bool.and_eq_true] at hs
  obtain ⟨⟨hs1, hs2⟩, hs3⟩ := hs
  have hal := all_alike hs1
  have hk := sortable_of hs2
  have ei := each_tells r rv
  have hpd := (pys_py hp).2
  have hln : its.length = ds.length := by rw [← rv.length, ← r.length]
  refine call_function_entry_kw kind_sorted plain_sorted entry_sorted (args_sorted1 _) ?_
  unfold Builtin.«sorted»
  refine wpAny_bind (m := checkCount "sorted" 1 1 _) (wpAny_pure ?_)
  refine wpAny_bind (wpAny_collect_seq a hT ho hc hd (fun h' kp => ?_) (by rw [List.size_toArray]; exact hL))
  refine wpAny_bind (wpAny_newList ?_ hL)
  have I1 : L2.Inv X pins σ H { s with heap := h' } := I.kept (t' := s.toks) kp
  have hget : (h'.push { cls := .type "list", data := .seq its.toArray }).get? h'.objs.size = some (seqObj "list" its.toArray 0) := Heap.get?_push_size _ rfl
  have old : ∀ b ob, s.heap.get? b = some ob → (sortingHeap (h'.push { cls := .type "list", data := .seq its.toArray }) h'.objs.size its).get? b = some ob := fun b ob e =>
    sortingHeap_old (Nat.ne_of_lt (Heap.lt_size (kp b ob e))) (Heap.get?_push_of_some _ (kp b ob e))
  have er : EachIs (fun v d => ∃ as, Reads (sortingHeap (h'.push { cls := .type "list", data := .seq its.toArray }) h'.objs.size its) v d as) its (ds.map D.py) := by
    refine each_map (R := fun v d => ∃ as, Reads (sortingHeap (h'.push { cls := .type "list", data := .seq its.toArray }) h'.objs.size its) v d as) D.py ((each_mem ei).mono fun v d ⟨ht, hm⟩ => ?_)
    obtain ⟨as, rd⟩ := tells_reads gx I ht (hpd d hm)
    exact ⟨as, PyProof.Rows.Reads.keeps old rd⟩
  refine wpAny_bind (wpAny_holding (wpAny_call_entry_kw slot_list_sort ⟨_, hget, rfl⟩ entry_list_sort ?body (args_list_sort _)))
  case body =>
    refine list_sort_vals (s := { s with heap := h'.push { cls := .type "list", data := .seq its.toArray } }) hget (SortsAt.data (s := { s with heap := sortingHeap (h'.push { cls := .type "list", data := .seq its.toArray }) h'.objs.size its }) er hal hk fun d hd => ?_) hL ?_
    · have q := of_decide_eq_true (List.all_eq_true.mp hs3 d hd)
      show X.A.units + 1 + 1 + d.depth < cLine
      omega
    · have out := sortVals_data (h' := sortingHeap (h'.push { cls := .type "list", data := .seq its.toArray }) h'.objs.size its) (R := Tells R ρ H) (enc := D.py) false ei ((each_mem ei).mono fun v d ⟨ht, hm⟩ => by
        obtain ⟨as, rd⟩ := tells_reads gx I ht (hpd d hm)
        exact ⟨as, PyProof.Rows.Reads.keeps old rd⟩) hal
      obtain ⟨vs', q1, q2⟩ := of_each out
      obtain ⟨ep, he'⟩ := sortedHeap_at (out := (sortVals (dataKind (sortingHeap (h'.push { cls := .type "list", data := .seq its.toArray }) h'.objs.size its) (ds.map D.py)) false its its).toArray) hget
      have hlen : vs'.length ≤ sizeLine := by
        rw [← q1.length, List.length_mergeSort, ← hln]; exact hL
      refine ⟨_, rfl, wpAny_pure ⟨_, rfl, .ref h'.objs.size, upd H h'.objs.size (.lst vs'), I1.laid (t' := s.toks) (fun b ob e => ?_) (Nat.le_refl _) ⟨hlen, _, ep, q2, he'⟩, rfl, h _ vs' (I1.hok.fresh (Nat.le_refl _)) q1⟩⟩
      have hb := Heap.lt_size (show h'.get? b = some ob from e)
      rw [sortedHeap_old (Nat.ne_of_lt hb) (by rw [Heap.size_push]; exact Nat.lt_succ_of_lt hb)]
      exact Heap.get?_push_of_some _ e
theorem cr_sortedD (gx : GX R X) (hu : X.A.units + 70 < cLine) : CallR X (.builtin "sorted") (rOp R T (biD "sorted")) := by
  intro pins s σ H vs us Q I r h
  obtain ⟨ρ, g, ds, own, d, G, rb, se, q⟩ := h
  cases rb with
  | nil => simp [biD] at se
  | cons r1 t =>
    cases t with
    | cons _ _ => simp [biD] at se
    | nil =>
      simp only [biD] at se
      split at se
      · rename_i l e1
        split at se
        · rename_i ps e2
          split at se
          · rename_i hs
            cases se
            obtain ⟨a, vs, rfl, hq, rr⟩ := r1.items e1
            have e3 := (pys_py e2).1
            subst e3
            rw [Vals.ref1 r]
            rcases hq with hq | hq
            · obtain ⟨its, rv, ⟨o, n, ho, hc, _, hd⟩, hz⟩ := I.list (gx.K ▸ hq)
              exact sorted_seq gx I (.inl rfl) ho hc hd (by rw [← rv.length]; exact hz) rv rr e2 hs hu fun p vs' hp r' => made q hp r'
            · obtain ⟨its, rv, ⟨o, ho, hc, n, hd⟩, hz⟩ := I.tuple (gx.K ▸ hq)
              exact sorted_seq gx I (.inr rfl) ho hc hd (by rw [← rv.length]; exact hz) rv rr e2 hs hu fun p vs' hp r' => made q hp r'
          · cases se
        · cases se
      · cases se
end
end PyD
namespace PyD
open PySem PySem.Spec PyProof.Rows L2
section
variable {R : RC} {T : Tab} {X : Cx}
theorem Reps.dpAll {ρ : List (List Addr)} {H : Hp} {ds : List D} {vs : List V} {ps : List PyData} (e : D.toPys ds = some ps) (r : Reps R ρ H ds vs) : DpAll R.K H vs ps := Reps.dp ds ps vs e r
end
end PyD
end
section
set_option Elab.async false
set_option linter.all false
set_option maxRecDepth 100000
set_option maxHeartbeats 2000000
namespace PyD
open PySem PySem.Spec PyProof.Rows L2
section
variable {R : RC} {T : Tab} {X : Cx}
/-- what looking through a sequence asks -/
theorem look_of {a : D} {ds : List D} {x : PyData} {ps : List PyData} (h : lookD a ds = some (x, ps)) : a.toPy = some x ∧ D.toPys ds = some ps ∧ SeqAt.shaped x = true ∧ SeqAt.shaped (.list ps) = true := by
  unfold lookD at h
  split at h
  · rename_i x' ps' e1 e2
    split at h
    · rename_i hs
      cases h
      simp only [Bool.and_eq_true] at hs
      exact ⟨e1, e2, hs.1, hs.2⟩
    · cases h
  · cases h
theorem items_dp {ρ : List (List Addr)} {H : Hp} {d : D} {ds : List D} {ps : List PyData} {v : V} (e : d.items = some ds) (e2 : D.toPys ds = some ps) (h : RepB R ρ H d v) : Dp R.K H v (.list ps) ∨ Dp R.K H v (.tuple ps) := by
  obtain ⟨a, vs, rfl, hq, rr⟩ := h.items e
  rcases hq with hq | hq
  · exact .inl (.lst hq (Reps.dp _ _ _ e2 rr))
  · exact .inr (.tup hq (Reps.dp _ _ _ e2 rr))
theorem lay_l {ps : List PyData} (h : SeqAt.shaped (.list ps) = true) : PyData.canLayAll0 ps = true := SeqAt.canLay_of_shaped h
theorem cmp_in (gx : GX R X) (hu : X.A.units + 65 < cLine) (neg : Bool) : OpR X (compareOp (if neg then .NotIn else .In)) (fun x y H Q => rOp R T (semB (cmpD (if neg then .NotIn else .In))) [x, y] H Q) := by
  intro pins s σ H x y v u Q I rx ry h
  obtain ⟨ρ, g, dx, dy, own, d, G, r1, r2, se, q⟩ := rOp2 h
  have key : ∃ ds x' ps, dy.items = some ds ∧ lookD dx ds = some (x', ps) ∧ d = .bl (if neg then !(ps.any fun z => PyData.eqv z x') else ps.any fun z => PyData.eqv z x') ∧ own = false := by
    cases neg with
    | false =>
      simp only [semB, cmpD, Bool.false_eq_true, if_false] at se
      split at se
      · rename_i c hc
        cases se
        split at hc
        · rename_i ds e1
          unfold inD at hc
          split at hc
          · rename_i x' ps e2
            cases hc
            exact ⟨ds, x', ps, e1, e2, by simp, rfl⟩
          · cases hc
        · cases hc
      · cases se
    | true =>
      simp only [semB, cmpD, if_true] at se
      split at se
      · rename_i c hc
        cases se
        split at hc
        · rename_i ds e1
          split at hc
          · rename_i c' hc'
            cases hc
            unfold inD at hc'
            split at hc'
            · rename_i x' ps e2
              cases hc'
              exact ⟨ds, x', ps, e1, e2, by simp, rfl⟩
            · cases hc'
          · cases hc
        · cases hc
      · cases se
  obtain ⟨ds, x', ps, e1, e2, rfl, rfl⟩ := key
  obtain ⟨h1, h2, h3, h4⟩ := look_of e2
  obtain ⟨as, rx'⟩ := Dp.reads I x' x v (gx.K ▸ r1.dp h1) rx
  have hroom : X.A.units + 1 + min (PyData.depthAll ps) x'.depth < cLine := room_in_shaped h3 hu
  have fin := flat q (.bl _)
  rcases items_dp e1 h2 r2 with dd | dd
  · obtain ⟨bs, rc⟩ := Dp.reads I (.list ps) y u (gx.K ▸ dd) ry
    cases neg with
    | false => exact SeqAt.in_list_reads rc rx' (lay_l h4) (SeqAt.canLay_of_shaped h3) hroom ⟨.bl _, H, I, rfl, fin⟩
    | true => exact SeqAt.notIn_list_reads rc rx' (lay_l h4) (SeqAt.canLay_of_shaped h3) hroom ⟨.bl _, H, I, rfl, fin⟩
  · obtain ⟨bs, rc⟩ := Dp.reads I (.tuple ps) y u (gx.K ▸ dd) ry
    cases neg with
    | false => exact SeqAt.in_tuple_reads rc rx' (lay_l h4) (SeqAt.canLay_of_shaped h3) hroom ⟨.bl _, H, I, rfl, fin⟩
    | true => exact SeqAt.notIn_tuple_reads rc rx' (lay_l h4) (SeqAt.canLay_of_shaped h3) hroom ⟨.bl _, H, I, rfl, fin⟩

/-- the methods of lists and tuples: which type, which built-in -/
def seqId (tup : Bool) (m : String) : String := (if tup then "tuple." else "list.") ++ m
theorem seq_meth {pins : List (Addr × Obj)} {s : Shared} {σ : St} {H : Hp} {ρ : List (List Addr)} {o x : D} {l : List D} {x' : PyData} {ps : List PyData} {vo vx : V} {uo ux : Value} (gx : GX R X) (hu : X.A.units + 65 < cLine) (I : L2.Inv X pins σ H s)
    (ro : RepB R ρ H o vo) (rx : RepB R ρ H x vx) (lo : RelV vo uo) (lx : RelV vx ux) (e1 : o.items = some l) (e2 : lookD x l = some (x', ps)) :
    ∃ (a : Addr) (its : List Value) (n : Nat) (sl : Array (Option Value)), uo = .ref a ∧ s.heap.get? a = some { cls := .type (if o.isTup then "tuple" else "list"), dict := none, data := .seq its.toArray n, slots := sl } ∧ its.length ≤ sizeLine ∧
      its.map (SeqAt.readOf s.heap) = ps ∧ (∀ y, y ∈ its.toArray → SeqAt.EqAt X.A.in1 s y ux (PyData.eqv (SeqAt.readOf s.heap y) x')) := by
  obtain ⟨h1, h2, h3, h4⟩ := look_of e2
  obtain ⟨as, rx'⟩ := Dp.reads I x' vx ux (gx.K ▸ rx.dp h1) lx
  have hroom : X.A.units + 1 + min (PyData.depthAll ps) x'.depth < cLine := room_in_shaped h3 hu
  obtain ⟨a, vs, rfl, hq, rr⟩ := ro.itemsK e1
  cases lo
  have hd : DpAll X.K H vs ps := gx.K ▸ Reps.dp _ _ _ h2 rr
  rcases hq with ⟨ht, hq⟩ | ⟨ht, hq⟩
  · obtain ⟨its, rv, ⟨⟨cls, dd, data, sls⟩, n, ho, hc, hdn, hdt⟩, hz⟩ := I.list (gx.K ▸ hq)
    simp only at hc hdn hdt
    subst hc hdn hdt
    obtain ⟨bs, h5⟩ := Dp.readsAll I ps _ its hd rv
    refine ⟨a, its, n, sls, rfl, by rw [ht]; exact ho, by rw [← rv.length]; exact hz, SeqAt.readsAll_map ps its bs (lay_l h4) h5, ?_⟩
    exact SeqAt.items_eqAt (vs := its.toArray) (show ReadsAll s.heap its.toArray.toList ps bs from h5) rx' (lay_l h4) (SeqAt.canLay_of_shaped h3) hroom
  · obtain ⟨its, n, sls, rv, ho, hz⟩ := tuple_at I (gx.K ▸ hq)
    obtain ⟨bs, h5⟩ := Dp.readsAll I ps _ its hd rv
    refine ⟨a, its, n, sls, rfl, by rw [ht]; exact ho, by rw [← rv.length]; exact hz, SeqAt.readsAll_map ps its bs (lay_l h4) h5, ?_⟩
    exact SeqAt.items_eqAt (vs := its.toArray) (show ReadsAll s.heap its.toArray.toList ps bs from h5) rx' (lay_l h4) (SeqAt.canLay_of_shaped h3) hroom
theorem findIdx_at {α : Type} {p : α → Bool} : ∀ {l : List α} {k : Nat}, l.findIdx? p = some k → ∃ h : k < l.length, p l[k] = true ∧ ∀ m (hm : m < l.length), m < k → p l[m] = false
  | [], k, h => by simp at h
  | a :: l, k, h => by
    rw [List.findIdx?_cons] at h
    split at h
    · rename_i q
      cases h
      exact ⟨by simp, q, fun m hm z => by omega⟩
    · rename_i q
      cases e : l.findIdx? p with
      | none => rw [e] at h; cases h
      | some j =>
        rw [e] at h
        cases h
        obtain ⟨h1, h2, h3⟩ := findIdx_at e
        refine ⟨Nat.succ_lt_succ h1, by simpa using h2, fun m hm z => ?_⟩
        cases m with
        | zero => simpa using q
        | succ m => simpa using h3 m (Nat.lt_of_succ_lt_succ hm) (Nat.lt_of_succ_lt_succ z)
theorem mt_index (gx : GX R X) (hu : X.A.units + 65 < cLine) {pins : List (Addr × Obj)} {s : Shared} {σ : St} {H : Hp} {ρ : List (List Addr)} {o x : D} {l : List D} {k : Nat} {vo vx : V} {uo ux : Value} {Q : VK} (I : L2.Inv X pins σ H s)
    (ro : RepB R ρ H o vo) (rx : RepB R ρ H x vx) (lo : RelV vo uo) (lx : RelV vx ux) (e1 : o.items = some l) (e2 : indexOf x l = some k) (q : Q (.int (k : Nat)) H) :
    wpAny (model X.prog X.w) X.A (call (.builtin (seqId o.isTup "index")) [uo, ux]) (EP X pins σ Q) X.xe s := by
  unfold indexOf at e2
  split at e2
  · rename_i x' ps hl
    obtain ⟨a, its, n, sl, rfl, ho, hz, hm, he⟩ := seq_meth gx hu I ro rx lo lx e1 hl
    obtain ⟨h1, h2, h3⟩ := findIdx_at e2
    have hlen : ps.length = its.length := by rw [← hm, List.length_map]
    have hj : k < its.toArray.size := by simpa [← hlen] using h1
    have at_ : ∀ (m : Nat) (hm' : m < its.toArray.size), ∃ h : m < ps.length, SeqAt.readOf s.heap its.toArray[m] = ps[m] := fun m hm' => by
      have hml : m < its.length := by simpa using hm'
      refine ⟨by omega, ?_⟩
      subst hm
      simp
    have fin : EP X pins σ Q (.int (k : Nat) s.toks) { s with toks := s.toks + 1 } := ⟨.int (k : Nat), H, I.tok _, ⟨_, rfl⟩, q⟩
    cases ht : o.isTup with
    | false =>
      rw [ht] at ho
      refine call_meets PySem.F.slot_list_index ⟨_, ho, rfl⟩ PySem.F.entry_list_index (PySem.F.args_list_index_2 _ _)
        (SeqAt.list_indexAt a its.toArray n none sl ux (fun u => PyData.eqv (SeqAt.readOf s.heap u) x') k hj (by have := sizeLine_eq; omega) ?_ ?_) ⟨ho, he, fin⟩
      · obtain ⟨_, e⟩ := at_ k hj
        show PyData.eqv (SeqAt.readOf s.heap its.toArray[k]) x' = true
        rw [e]; exact h2
      · intro m hm' hmk
        obtain ⟨hh, e⟩ := at_ m hm'
        show PyData.eqv (SeqAt.readOf s.heap its.toArray[m]) x' = false
        rw [e]; exact h3 m hh hmk
    | true =>
      rw [ht] at ho
      refine call_meets PySem.F.slot_tuple_index ⟨_, ho, rfl⟩ PySem.F.entry_tuple_index (PySem.F.args_tuple_index_2 _ _)
        (_root_.TI.tuple_indexAt a its.toArray n none sl ux (fun u => PyData.eqv (SeqAt.readOf s.heap u) x') k hj ?_ ?_) ⟨ho, he, fin⟩
      · obtain ⟨_, e⟩ := at_ k hj
        show PyData.eqv (SeqAt.readOf s.heap its.toArray[k]) x' = true
        rw [e]; exact h2
      · intro m hm' hmk
        obtain ⟨hh, e⟩ := at_ m hm'
        show PyData.eqv (SeqAt.readOf s.heap its.toArray[m]) x' = false
        rw [e]; exact h3 m hh hmk
  · cases e2
theorem mt_count (gx : GX R X) (hu : X.A.units + 65 < cLine) {pins : List (Addr × Obj)} {s : Shared} {σ : St} {H : Hp} {ρ : List (List Addr)} {o x : D} {l : List D} {k : Nat} {vo vx : V} {uo ux : Value} {Q : VK} (I : L2.Inv X pins σ H s)
    (ro : RepB R ρ H o vo) (rx : RepB R ρ H x vx) (lo : RelV vo uo) (lx : RelV vx ux) (e1 : o.items = some l) (e2 : countOf x l = some k) (q : Q (.int (k : Nat)) H) :
    wpAny (model X.prog X.w) X.A (call (.builtin (seqId o.isTup "count")) [uo, ux]) (EP X pins σ Q) X.xe s := by
  unfold countOf at e2
  split at e2
  · rename_i x' ps hl
    cases e2
    obtain ⟨a, its, n, sl, rfl, ho, hz, hm, he⟩ := seq_meth gx hu I ro rx lo lx e1 hl
    have hc : its.toArray.toList.countP (fun u => PyData.eqv (SeqAt.readOf s.heap u) x') = ps.countP (fun y => PyData.eqv y x') := by
      rw [← hm, List.countP_map]; rfl
    have fin : EP X pins σ Q (.int ((its.toArray.toList.countP (fun u => PyData.eqv (SeqAt.readOf s.heap u) x') : Nat) : Int) s.toks) { s with toks := s.toks + 1 } := by
      rw [hc]; exact ⟨.int _, H, I.tok _, ⟨_, rfl⟩, q⟩
    cases ht : o.isTup with
    | false =>
      rw [ht] at ho
      exact call_meets PySem.F.slot_list_count ⟨_, ho, rfl⟩ PySem.F.entry_list_count (PySem.F.args_list_count_2 _ _) (SeqAt.list_countAt a its.toArray n none sl ux (fun u => PyData.eqv (SeqAt.readOf s.heap u) x')) ⟨ho, he, fin⟩
    | true =>
      rw [ht] at ho
      exact call_meets PySem.F.slot_tuple_count ⟨_, ho, rfl⟩ PySem.F.entry_tuple_count (PySem.F.args_tuple_count_2 _ _) (SeqAt.tuple_countAt a its.toArray n none sl ux (fun u => PyData.eqv (SeqAt.readOf s.heap u) x')) ⟨ho, he, fin⟩
  · cases e2
end
end PyD
end
section
set_option Elab.async false
set_option linter.all false
set_option maxRecDepth 100000
set_option maxHeartbeats 2000000
namespace PyD
open PySem PySem.Spec PyProof.Rows L2
section
variable {R : RC} {T : Tab} {X : Cx} {W : WX}
/-- what index and count ask of their object -/
theorem mtD_of {m : String} {ds : List D} {own : Bool} {d : D} (h : semM m ds = some (own, d)) : ∃ o x l k, ds = [o, x] ∧ o.items = some l ∧ own = false ∧ d = .int (k : Nat) ∧ ((m = "index" ∧ indexOf x l = some k) ∨ (m = "count" ∧ countOf x l = some k)) := by
  unfold semM at h
  split at h
  · rename_i o r
    unfold mtD at h
    split at h
    · rename_i x
      split at h
      · rename_i l e1
        split at h
        · rename_i k e2
          cases h
          exact ⟨o, x, l, k, rfl, e1, rfl, rfl, .inl ⟨rfl, e2⟩⟩
        · cases h
      · cases h
    · rename_i x
      split at h
      · rename_i l e1
        split at h
        · rename_i k e2
          cases h
          exact ⟨o, x, l, k, rfl, e1, rfl, rfl, .inr ⟨rfl, e2⟩⟩
        · cases h
      · cases h
    · cases h
  · cases h
theorem opOf_inv {R : RC} {T : Tab} {ρ : List (List Addr)} {H : Hp} {loc : Loc} {g : G} {Q : VK} {E : EK} {sem : List D → Option (Bool × D)} {as : List Arg} (h : Ans R T ρ H (opOf loc sem as g) Q E) :
    ∃ ds own d, valsOf loc as = some ds ∧ sem ds = some (own, d) ∧ Ans R T ρ H (.ok own d g) Q E := by
  unfold opOf at h
  cases e1 : valsOf loc as with
  | none => rw [e1] at h; exact h.elim
  | some ds =>
    rw [e1] at h
    cases e2 : sem ds with
    | none => simp only [e2] at h; exact h.elim
    | some p =>
      obtain ⟨own, d⟩ := p
      simp only [e2] at h
      exact ⟨ds, own, d, rfl, e2, h⟩
theorem vals_cons {loc : Loc} {a : Arg} {as : List Arg} {ds : List D} (h : valsOf loc (a :: as) = some ds) : ∃ d r, a.val loc = some d ∧ valsOf loc as = some r ∧ ds = d :: r := by
  unfold valsOf at h
  split at h
  · rename_i d r e1 e2
    cases h
    exact ⟨d, r, e1, e2, rfl⟩
  · cases h
/-- o.m(e), a method of lists and tuples that changes nothing -/
theorem pe_mtD {o e : Expr} {name : Str} {m : String} {apos cpos : Pos} {fo : Loc → G → ResG} {fa : Loc → G → ResA} (gx : GX R X) (hu : X.A.units + 65 < cLine) (hn : (m = "index" ∧ name = "index") ∨ (m = "count" ∧ name = "count"))
    (ho : PE X o (rdG R T W fo)) (ha : PA X [e] (rdA R T W fa)) (hbase : attributeBase o name X.env (eval o X.env) = eval o X.env) (hline : (apos.endLine == cpos.line) = true) (hs : starEach [e] X.env = (false, eval e X.env) :: starEach [] X.env) :
    PE X (.Call (.Attribute o name apos) [e] [] cpos) (rdE R T W (fun loc g => (fo loc g).bind fun x g1 => match fa loc g1 with
    | .ok as g2 => opOf loc (semM m) (x :: as) g2
    | _ => .bad)) := by
  refine ⟨fun pins s σ H Q I ⟨ρ, loc, g, S, q⟩ => ?_⟩
  have q1 := AnsG.bind S q
  have hfew : ((backTo cpos (starEach [e] X.env)).all (fun x => !x.1) && (backToKw cpos (keywordEach [] X.env)).all (fun x => x.1.isSome) && decide ([e].length + ([] : List Keyword).length + (if ([] : List Keyword).isEmpty then 0 else 1) < 30)) = true := by
    rw [hs]; rfl
  refine wpAny_Call_method_late hbase hfew hline rfl (thn (ho.run pins s σ H _ I ⟨ρ, loc, g, S, q1⟩) fun v s1 ⟨x, H1, I1, r1, ρ1, a, g1, st1, av, S1, q2⟩ => ?_)
  cases ef : fa loc g1 with
  | bad => simp only [ef] at q2; exact q2.elim
  | ex c fs g2 => simp only [ef] at q2; exact q2.elim
  | ok as g2 =>
    simp only [ef] at q2
    obtain ⟨ds, own, d, e1, e2, q3⟩ := opOf_inv q2
    obtain ⟨od, xd, l, k, rfl, eit, rfl, rfl, hk⟩ := mtD_of e2
    obtain ⟨d0, r0, v1, v2, e3⟩ := vals_cons e1
    cases e3
    have rb : RepB R ρ1 H1 od x := arg_val S1 av v1
    obtain ⟨p, vs, rfl, hq, rr⟩ := rb.itemsK eit
    obtain rfl : v = Value.ref p := r1
    have hty : ∃ (oo : Obj), s1.heap.get? p = some oo ∧ oo.cls = .type (if od.isTup then "tuple" else "list") ∧ oo.dict = none := by
      rcases hq with ⟨ht, hq⟩ | ⟨ht, hq⟩
      · obtain ⟨its, rv, ⟨oo, n, ho', hc, hd, hdt⟩, hz⟩ := I1.list (gx.K ▸ hq)
        exact ⟨oo, ho', by rw [ht]; exact hc, hd⟩
      · obtain ⟨its, n, sl, rv, ho', hz⟩ := tuple_at I1 (gx.K ▸ hq)
        exact ⟨_, ho', by rw [ht]; rfl, rfl⟩
    obtain ⟨oo, hoo, hcls, hdict⟩ := hty
    clear hq
    have hA := ha.run cpos pins s1 σ H1 (fun vs H2 => ∃ ρ2, Stp R T ρ1 ρ2 H1 H2 g2 ∧ ArgsAt R ρ2 H2 σ as vs) I1 ⟨ρ1, loc, g1, S1, by rw [ef]; exact fun ρ' vs H' a b => ⟨ρ', a, b⟩⟩
    -- the call, once the type is told
    have run : ∀ (id : String), id = seqId od.isTup m → wpAny (model X.prog X.w) X.A (callWith cpos (.builtin id) [.ref p] (backTo cpos (starEach [e] X.env)) []) (EP X pins σ Q) X.xe s1 := fun id hid => by
      subst hid
      rw [hs] at hA ⊢
      refine Calls.callWith_builtin rfl (Calls.evalArgs_plain ?_)
      refine thn hA fun us s2 ⟨vs2, H2, I2, r2, ρ2, st2, av2⟩ => ?_
      have S2 := st2.sr S1
      have bs := args_val S2 av2 v2
      cases bs with
      | cons b1 bt =>
        cases bt
        obtain ⟨u, rfl, ru⟩ := vals1 r2
        have av' : RepB R ρ2 H2 od (.ref p) := arg_val S2 (av.ext st2.n.1 (st2.ext S1.gr)) v1
        have fin : Q (.int (k : Nat)) H2 := q3 ρ2 _ H2 st2 (.int _) fun z => by cases z
        rcases hk with ⟨hm, hk⟩ | ⟨hm, hk⟩
        · subst hm
          exact mt_index (X := X) gx hu I2 av' b1 (lo := rfl) ru eit hk fin
        · subst hm
          exact mt_count (X := X) gx hu I2 av' b1 (lo := rfl) ru eit hk fin
    have hT : s1.TypeIs (.ref p) (if od.isTup then "tuple" else "list") := ⟨oo, hoo, hcls⟩
    have hD : ∀ a, Value.ref p = .ref a → ∃ ob, s1.heap.get? a = some ob ∧ ob.dict = none := fun a e => by cases e; exact ⟨oo, hoo, hdict⟩
    cases ht : od.isTup with
    | false =>
      rw [ht] at hT run
      rcases hn with ⟨rfl, rfl⟩ | ⟨rfl, rfl⟩
      · exact ⟨"list", _, F.plainAttrs_list, F.slot_list_index, F.type_list_index, hT, hD, run _ rfl⟩
      · exact ⟨"list", _, F.plainAttrs_list, F.slot_list_count, F.type_list_count, hT, hD, run _ rfl⟩
    | true =>
      rw [ht] at hT run
      rcases hn with ⟨rfl, rfl⟩ | ⟨rfl, rfl⟩
      · exact ⟨"tuple", _, F.plainAttrs_tuple, F.slot_tuple_index, F.type_tuple_index, hT, hD, run _ rfl⟩
      · exact ⟨"tuple", _, F.plainAttrs_tuple, F.slot_tuple_count, F.type_tuple_count, hT, hD, run _ rfl⟩

theorem cr_repr (gx : GX R X) (hu : X.A.units + 70 < cLine) : CallR X (.builtin "repr") (rOp R T (biD "repr")) := by
  intro pins s σ H vs us Q I r h
  obtain ⟨ρ, g, ds, own, d, G, rb, se, q⟩ := h
  cases rb with
  | nil => simp [biD] at se
  | cons r1 t =>
    cases t with
    | cons _ _ => simp [biD] at se
    | nil =>
      rename_i dx v
      simp only [biD] at se
      split at se
      · rename_i p e1
        split at se
        · rename_i hs
          cases se
          simp only [Bool.and_eq_true, decide_eq_true_eq, Bool.not_eq_true'] at hs
          obtain ⟨⟨⟨hs, hnd⟩, hdp⟩, hz⟩ := hs
          have hsz : p.shown.length ≤ sizeLine := by rw [sizeLine_eq]; omega
          obtain ⟨u, rfl, ru⟩ := vals1 r
          obtain ⟨as, rd⟩ := Dp.reads I p v u (gx.K ▸ r1.dp e1) ru
          have fin := flat q (.str p.shown)
          have key : ∀ a : Addr, u = .ref a → wpAny (model X.prog X.w) X.A (call (.builtin "repr") [u]) (EP X pins σ Q) X.xe s := fun a ea => by
            subst ea
            exact repr_of_reads' rd hs (PyData.noDict_hsm hnd) gx.ga (by omega) (fun _ _ z => z) (fun h' tu tk hk => ⟨.str p.shown, H, I.kept hk, ⟨tu, rfl⟩, fin⟩) hsz
          have sc : ∀ {y : D}, dx = y → RepB R ρ H y v := fun e => e ▸ r1
          cases dx with
          | non =>
            have ev := r1.non; subst ev
            obtain rfl : u = Value.none := ru
            simp only [D.toPy] at e1; cases e1
            exact P.repr_of_none ⟨.str _, H, I.tok _, ⟨_, rfl⟩, fin⟩
          | bl b =>
            have ev := r1.bl; subst ev
            obtain rfl : u = Value.bool b := ru
            simp only [D.toPy] at e1; cases e1
            exact P.repr_of_bool ⟨.str _, H, I.tok _, ⟨_, rfl⟩, fin⟩
          | int i =>
            have ev := r1.int; subst ev
            obtain ⟨tk, rfl⟩ := ru
            simp only [D.toPy] at e1; cases e1
            exact P.repr_of_int (by simpa [PyData.showable] using hs) ⟨.str _, H, I.tok _, ⟨_, rfl⟩, fin⟩
          | str x =>
            have ev := r1.str; subst ev
            obtain ⟨tk, rfl⟩ := ru
            simp only [D.toPy] at e1; cases e1
            exact P.repr_of_str ⟨.str _, H, I.tok _, ⟨_, rfl⟩, fin⟩ hsz
          | tup l =>
            obtain ⟨a, vs', rfl, _, _⟩ := r1.tup
            exact key a ru
          | lst l =>
            obtain ⟨a, vs', rfl, _, _⟩ := r1.lst
            exact key a ru
          | _ => simp [D.toPy] at e1
        · cases se
      · cases se

def kitAll : Bool := ["NoneType", "bool", "int", "str", "tuple", "list", "dict"].all fun t => ["int", "bool", "str", "tuple", "list", "dict"].all fun n => decide (kitB t n = some (t == n || (t == "bool" && n == "int")))
theorem kitAll_ok : kitAll = true := by decide +kernel
theorem kit_at {t n : String} (ht : t ∈ ["NoneType", "bool", "int", "str", "tuple", "list", "dict"]) (hn : n ∈ ["int", "bool", "str", "tuple", "list", "dict"]) : kitB t n = some (t == n || (t == "bool" && n == "int")) := by
  have h := kitAll_ok
  unfold kitAll at h
  rw [List.all_eq_true] at h
  have h1 := h t ht
  rw [List.all_eq_true] at h1
  exact of_decide_eq_true (h1 n hn)
theorem tyD_mem {d : D} {t : String} (h : tyD d = some t) : t ∈ ["NoneType", "bool", "int", "str", "tuple", "list", "dict"] := by
  cases d <;> simp only [tyD] at h <;> cases h <;> simp
theorem known_mem {n : String} (h : knownTy n = true) : n ∈ ["int", "bool", "str", "tuple", "list", "dict"] := by
  simp only [knownTy, Bool.or_eq_true, beq_iff_eq] at h
  simp only [List.mem_cons, List.not_mem_nil, or_false]
  rcases h with ((((h | h) | h) | h) | h) | h <;> simp [h]
theorem isTy_eq {d : D} {t n : String} (h : tyD d = some t) (hn : knownTy n = true) : isTy n d = (t == n || (t == "bool" && n == "int")) := by
  have hm := known_mem hn
  simp only [List.mem_cons, List.not_mem_nil, or_false] at hm
  rcases hm with hm | hm | hm | hm | hm | hm <;> subst hm <;> cases d <;> simp only [tyD] at h <;> cases h <;> rfl
theorem toPy_ty {d : D} {p : PyData} (h : d.toPy = some p) : ∃ t, tyD d = some t := by
  cases d <;> simp only [D.toPy] at h <;> first | exact ⟨_, rfl⟩ | cases h
theorem tyX_of {ρ : List (List Addr)} {H : Hp} {d : D} {v : V} {t : String} (h : tyD d = some t) (r : RepB R ρ H d v) : TyX R.K H v (.type t) := by
  cases d <;> simp only [tyD] at h <;> cases h
  · rw [r.non]; exact .base .non
  · rw [r.bl]; exact .base (.bl _)
  · rw [r.int]; exact .base (.int _)
  · rw [r.str]; exact .base (.str _)
  · obtain ⟨a, vs, rfl, hq, _⟩ := r.tup
    rcases hq with ⟨o, hq, _⟩ | ⟨o, its, n, h1, h2, _⟩
    · exact .fTuple hq
    · exact .kTuple h1 h2
  · obtain ⟨a, vs, rfl, hq, _⟩ := r.lstL
    rcases hq with hq | ⟨o, hq⟩
    · exact .base (.lst hq)
    · exact .base (.frz hq)
  · rcases r with r | r
    · cases r with
      | dic h _ => exact .fDict h
    · cases r
theorem kit_isTy {K : PySem.W.Frag} {d : D} {t n : String} (h : tyD d = some t) (hn : knownTy n = true) : PySem.W.kitOne K (.type t) (.type n) = some (isTy n d) := by
  rw [isTy_eq h hn]
  exact kit_ty (kit_at (tyD_mem h) (known_mem hn))
theorem cr_isi (gx : GX R X) : CallR X (.builtin "isinstance") (rOp R T (biD "isinstance")) := by
  intro pins s σ H vs us Q I r h
  obtain ⟨ρ, g, ds, own, d, G, rb, se, q⟩ := h
  cases rb with
  | nil => simp [biD] at se
  | cons r1 t =>
    rename_i dx x ds1 vs1
    cases t with
    | nil => simp [biD] at se
    | cons r2 t =>
      rename_i dy y ds2 vs2
      cases t with
      | cons _ _ => simp [biD] at se
      | nil =>
        have key : (∃ n, dy = .ty n ∧ knownTy n = true ∧ (tyD dx).isSome = true ∧ own = false ∧ d = .bl (isTy n dx)) ∨ (∃ n m, dy = .tup [.ty n, .ty m] ∧ knownTy n = true ∧ knownTy m = true ∧ (tyD dx).isSome = true ∧ own = false ∧ d = .bl (isTy n dx || isTy m dx)) := by
          cases dy with
          | ty n =>
            simp only [biD] at se
            split at se
            · rename_i hs; cases se
              simp only [Bool.and_eq_true] at hs
              exact .inl ⟨n, rfl, hs.1, hs.2, rfl, rfl⟩
            · cases se
          | tup l =>
            match l, se with
            | [.ty n, .ty m], se =>
              simp only [biD] at se
              split at se
              · rename_i hs; cases se
                simp only [Bool.and_eq_true] at hs
                exact .inr ⟨n, m, rfl, hs.1.1, hs.1.2, hs.2, rfl, rfl⟩
              · cases se
          | _ => simp [biD] at se
        rcases key with ⟨n, rfl, hn, hp, rfl, rfl⟩ | ⟨n, m, rfl, hn, hm, hp, rfl, rfl⟩
        · obtain ⟨t, ht⟩ := Option.isSome_iff_exists.mp hp
          have ey := r2.ty; subst ey
          exact call_isi pins s σ H _ us Q I r ⟨x, .ty n, .type t, .type n, _, rfl, .ty n, gx.K ▸ tyX_of ht r1, kit_isTy ht hn, flat q (.bl _)⟩
        · obtain ⟨t, ht⟩ := Option.isSome_iff_exists.mp hp
          obtain ⟨a, vs, rfl, hq, rr⟩ := r2.tup
          obtain ⟨u1, u2, rfl, l1, l2⟩ := vals2 r
          obtain rfl : u2 = Value.ref a := l2
          obtain ⟨its, nn, sl, rv, ho, hz⟩ := tuple_at I (gx.K ▸ hq)
          obtain ⟨Pz, Z, pz, hx⟩ := kit_of I l1 (gx.K ▸ tyX_of ht r1)
          have eits : its = [.type n, .type m] := by
            cases rr with
            | cons a1 t1 =>
              cases t1 with
              | cons a2 t2 =>
                cases t2
                cases a1; cases a2
                cases rv with
                | cons b1 t1 =>
                  cases t1 with
                  | cons b2 t2 =>
                    cases t2
                    rw [show _ = Value.type n from b1, show _ = Value.type m from b2]
          subst eits
          refine PySem.W.kia_tup Z I.kIn pz ho (b := isTy n dx || isTy m dx) ?_ hx fun tk => ⟨.bl _, H, I.tok tk, rfl, flat q (.bl _)⟩
          refine kitAny_cons (kit_isTy ht hn) (fun e => ?_) (fun e => by rw [e]; rfl)
          rw [e, Bool.false_or]
          exact kitAny_cons (kit_isTy ht hm) (fun e => by rw [e]; exact kitAny_nil) (fun e => e)
end
end PyD
end
section
set_option Elab.async false
set_option linter.all false
set_option maxRecDepth 100000
set_option maxHeartbeats 2000000
namespace PyD
open PySem PySem.Spec PyProof.Rows L2

/-- a foreign closure, called later on, does what ct says -/
def CloOk (R : RC) (T : Tab) (ct : CloT) (stk : List Env) (s : Shared) (H : Hp) : Prop :=
  ∀ (id : Nat) (cs : List Nat) (ds : List D) (g : G) (ρ1 : List (List Addr)) (H1 : Hp) (s1 : Shared) (A1 : Around) (outer1 : List Env) (a : Addr) (us : List Value) (vs : List V) (Q : VK) (E : XK),
    Un (frs stk) [] H H1 s.heap s1.heap → Env0 R.P R.w R.K R.mg R.base A1 outer1 s1 H1 → Room R.kc A1 → A1.guards = some [] → GR R T ρ1 H1 g → Rep R ρ1 H1 (.clo id cs) (.ref a) → Reps R ρ1 H1 ds vs → Vals vs us →
    Ans R T ρ1 H1 (ct id cs ds g) Q E → codeAny (model R.P R.w) A1 (.call (.ref a) ⟨us, []⟩) (CR (L2.CX R.P R.w) outer1 R.P R.w H1 s1 Q E) s1
def NoClo (ct : CloT) : Prop := ∀ id cs a g, ct id cs a g = .bad
/-- what is known of a def's text -/
structure CC where
  N : List Str
  sc : Scope
  k : Nat
  top : Bool
/-- the cells that a def's frame hands to its lambdas -/
def capsOf (R : RC) (cells : List (Str × Addr)) : Nat → List Nat := fun id => match R.lam id with
  | some L => (cloFrom cells L.scope.names []).map (·.2)
  | none => []
structure CtxOk (R : RC) (T : Tab) (X : Cx) (cc : CC) (Γ : Env') : Prop where
  gx : GX R X
  N : X.N = cc.N
  sc : X.env.scope = cc.sc
  room : Room cc.k X.A
  fn : cc.top = true → ∀ x, X.fn x = true
  frame : cc.top = true → X.stack = X.env :: X.outer ∧ X.env.frame = some X.env.locals
  ex : cc.top = true → X.ex = []
  lamc : Γ.mine ≠ [] → Γ.caps = capsOf R X.env.cells ∧ X.env.qual = Γ.qual ∧ ∃ c P : Addr, X.env.code = .ref c ∧ LamX.TabB R.base R.mg c P ∧ (P, Γ.qual ++ "<lambda>") ∈ T ∧ ∀ p ∈ T, p.1 = P → p.2 = Γ.qual ++ "<lambda>"
  cl2 : ∀ (pn : List (Addr × Obj)) (xe : Value → Shared → Prop) (pins : List (Addr × Obj)) (s : Shared) (σ : St) (H : Hp) (ρ : List (List Addr)) (loc : Loc) (g : G), L2.Inv (X.tr pn xe) pins σ H s → SR R T ρ H loc g σ → CloOk R T (Γ.sub loc) X.stack s H
theorem CtxOk.clo {R : RC} {T : Tab} {X : Cx} {cc : CC} {Γ : Env'} (c : CtxOk R T X cc Γ) (pins : List (Addr × Obj)) (s : Shared) (σ : St) (H : Hp) (ρ : List (List Addr)) (loc : Loc) (g : G) (I : L2.Inv X pins σ H s) (S : SR R T ρ H loc g σ) : CloOk R T (Γ.sub loc) X.stack s H := c.cl2 X.pn X.xe pins s σ H ρ loc g I S
/-- in the body of a try -/
theorem CtxOk.tr {R : RC} {T : Tab} {X : Cx} {cc : CC} {Γ : Env'} (c : CtxOk R T X cc Γ) (pn : List (Addr × Obj)) (xe : Value → Shared → Prop) : CtxOk R T (X.tr pn xe) cc Γ :=
  ⟨⟨c.gx.prog, c.gx.w, c.gx.K, c.gx.mg, c.gx.base, c.gx.nd, c.gx.calm, c.gx.ga⟩, c.N, c.sc, c.room, c.fn, c.frame, c.ex, c.lamc, fun pn2 xe2 pins s σ H ρ loc g I S => c.cl2 pn2 xe2 pins s σ H ρ loc g I S⟩
theorem CloOk.no {R : RC} {T : Tab} {ct : CloT} {stk : List Env} {s : Shared} {H : Hp} (h : NoClo ct) : CloOk R T ct stk s H := fun id cs ds g ρ1 H1 s1 A1 outer1 a us vs Q E _ _ _ _ _ _ _ _ q => by
  rw [h] at q
  exact q.elim
section
variable {R : RC} {T : Tab} {cc : CC} {Γ : Env'}
def SndE (R : RC) (T : Tab) (cc : CC) (Γ : Env') (e : Expr) (t : E) : Prop := ∀ (X : Cx) (W : WX), CtxOk R T X cc Γ → Takes X W → PE X e (rdE R T W (den Γ t))
def SndG (R : RC) (T : Tab) (cc : CC) (Γ : Env') (e : Expr) (t : E) : Prop := ∀ (X : Cx) (W : WX), CtxOk R T X cc Γ → Takes X W → PE X e (rdG R T W (fun loc g => gA t loc g (den Γ t loc g)))
def SndA (R : RC) (T : Tab) (cc : CC) (Γ : Env') (es : List Expr) (ts : List E) : Prop := ∀ (X : Cx) (W : WX), CtxOk R T X cc Γ → Takes X W → PA X es (rdA R T W (denA Γ ts))
def SndD (R : RC) (T : Tab) (cc : CC) (Γ : Env') (es : List Expr) (ts : List E) : Prop := ∀ (X : Cx) (W : WX), CtxOk R T X cc Γ → Takes X W → PA X es (rdA R T W (denD Γ ts))
/-- as a test -/
def rdT (R : RC) (T : Tab) (W : WX) (f : Loc → G → Res) : TT := fun σ H Q => rdE R T W f σ H fun v H' => ∃ c, v = .bl c ∧ Q c H'
def SndT (R : RC) (T : Tab) (cc : CC) (Γ : Env') (e : Expr) (t : E) : Prop := ∀ (X : Cx) (W : WX), CtxOk R T X cc Γ → Takes X W → PT X e (rdT R T W (den Γ t))

theorem CtxOk.units {X : Cx} (c : CtxOk R T X cc Γ) : X.A.units + 70 < cLine := by have := c.room.un; omega
def visB (sc : Scope) (x : Str) : Bool := decide (sc.names.lookup x = some .local) || decide (sc.names.lookup x = some .cell) || decide (sc.names.lookup x = some .free)
theorem visB_ok {sc : Scope} {x : Str} (h : visB sc x = true) : Vis sc x := by
  simp only [visB, Bool.or_eq_true, decide_eq_true_eq] at h
  rcases h with (h | h) | h
  · exact .inl h
  · exact .inr (.inl h)
  · exact .inr (.inr h)
/-- an ordinary name -/
def nameB (x : Str) : Bool := !(x == ("__debug__" : Str)) && !(x == ("__classdict__" : Str)) && !(x == ("__name__" : Str))
theorem nameB_ok {x : Str} (h : nameB x = true) : (x == ("__debug__" : Str)) = false ∧ (x == ("__classdict__" : Str)) = false ∧ x ≠ "__name__" := by
  simp only [nameB, Bool.and_eq_true, Bool.not_eq_true'] at h
  exact ⟨h.1.1, h.1.2, fun e => by rw [e] at h; exact absurd h.2 (by decide)⟩
def slotB (cc : CC) (i : Nat) (x : Str) : Bool := decide (cc.N[i]? = some x) && visB cc.sc x && nameB x
def globB (cc : CC) (x : Str) : Bool := decide (cc.sc.names.lookup x = some .globalImplicit) && nameB x
theorem slotB_ok {X : Cx} {i : Nat} {x : Str} (c : CtxOk R T X cc Γ) (h : slotB cc i x = true) : X.N[i]? = some x ∧ Vis X.env.scope x ∧ (x == ("__debug__" : Str)) = false ∧ (x == ("__classdict__" : Str)) = false := by
  simp only [slotB, Bool.and_eq_true, decide_eq_true_eq] at h
  obtain ⟨n1, n2, n3⟩ := nameB_ok h.2
  exact ⟨by rw [c.N]; exact h.1.1, by rw [c.sc]; exact visB_ok h.1.2, n1, n2⟩
theorem globB_ok {X : Cx} {x : Str} (c : CtxOk R T X cc Γ) (h : globB cc x = true) : Gl X x ∧ (x == ("__debug__" : Str)) = false ∧ x ≠ "__name__" := by
  simp only [globB, Bool.and_eq_true, decide_eq_true_eq] at h
  obtain ⟨n1, n2, n3⟩ := nameB_ok h.2
  refine ⟨?_, n1, n3⟩
  show X.env.scope.names.lookup x = some .globalImplicit
  rw [c.sc]; exact h.1

section
variable {W : WX} {σ : St} {H : Hp} {Q : VK}
theorem rd_bind {f : Loc → G → Res} {k : Loc → D → G → Res} (h : rdE R T W (fun loc g => (f loc g).bind (k loc)) σ H Q) :
    rdE R T W (fun loc g => (f loc g).frz) σ H (fun v H1 => ∃ ρ1 loc d g1, Rep R ρ1 H1 d v ∧ SR R T ρ1 H1 loc g1 σ ∧ Ans R T ρ1 H1 (k loc d g1) Q (fun c dx H' => W c dx σ H')) := by
  obtain ⟨ρ, loc, g, S, q⟩ := h
  refine ⟨ρ, loc, g, S, ?_⟩
  have q1 : Ans R T ρ H ((f loc g).frz.bind (k loc)) Q (fun c dx H' => W c dx σ H') := by rw [Res.frz_bind]; exact q
  exact (Ans.bind S q1).mono fun v H1 ⟨ρ1, d, g1, _, r, S1, a⟩ => ⟨ρ1, loc, d, g1, r, S1, a⟩
theorem rd_bindG {f : Loc → G → ResG} {k : Loc → Arg → G → Res} (h : rdE R T W (fun loc g => (f loc g).bind (k loc)) σ H Q) :
    rdG R T W f σ H (fun v H1 => ∃ ρ1 loc a g1, ArgAt R ρ1 H1 σ a v ∧ SR R T ρ1 H1 loc g1 σ ∧ Ans R T ρ1 H1 (k loc a g1) Q (fun c dx H' => W c dx σ H')) := by
  obtain ⟨ρ, loc, g, S, q⟩ := h
  refine ⟨ρ, loc, g, S, ?_⟩
  have q1 := AnsG.bind S q
  cases e : f loc g with
  | bad => rw [e] at q1; exact q1
  | ex c fs g' => rw [e] at q1; exact q1
  | ok x g' =>
    rw [e] at q1
    intro ρ' v H' st av
    obtain ⟨ρ2, a2, g2, _, av2, S2, q2⟩ := q1 ρ' v H' st av
    exact ⟨ρ2, loc, a2, g2, av2, S2, q2⟩
theorem Ans.bind' {ρ : List (List Addr)} {loc : Loc} {g : G} {r : Res} {k : D → G → Res} {E : EK} (S : SR R T ρ H loc g σ) (h : Ans R T ρ H (r.bind k) Q E) :
    Ans R T ρ H r.frz (fun v H1 => ∃ ρ1 d g1, Stp R T ρ ρ1 H H1 g1 ∧ Rep R ρ1 H1 d v ∧ SR R T ρ1 H1 loc g1 σ ∧ Ans R T ρ1 H1 (k d g1) Q E) E := Ans.bind S (by rw [Res.frz_bind]; exact h)
theorem rd_mono {f : Loc → G → Res} {Q' : VK} (h : rdE R T W f σ H Q) (q : ∀ v H', Q v H' → Q' v H') : rdE R T W f σ H Q' := by
  obtain ⟨ρ, loc, g, S, a⟩ := h
  exact ⟨ρ, loc, g, S, a.mono q⟩
theorem ans_ok {ρ : List (List Addr)} {g : G} {d : D} {v : V} {E : EK} (G0 : GR R T ρ H g) (r : Rep R ρ H d v) (a : Ans R T ρ H (.ok false d g) Q E) : Q v H := a ρ v H (Stp.refl G0) r fun z => by cases z
end

theorem SndE.v {x : Str} {i : Nat} {pos : Pos} (h : slotB cc i x = true) : SndE R T cc Γ (.Name x pos) (.v i) := fun X W c tk => by
  obtain ⟨h1, h2, h3, h4⟩ := slotB_ok c h
  exact pe_v h1 h2 h3 h4
def plainE : E → Bool
  | .b _ => false
  | .no => false
  | _ => true
theorem SndG.e {e : Expr} {t : E} (h : SndE R T cc Γ e t) (hp : plainE t = true) : SndG R T cc Γ e t := fun X W c tk => by
  refine pe_gA (fun loc g r => ?_) (h X W c tk)
  cases t <;> first | rfl | (simp [plainE] at hp)
theorem SndG.b {x : Str} {i : Nat} {pos : Pos} (h : slotB cc i x = true) : SndG R T cc Γ (.Name x pos) (.b i) := fun X W c tk => by
  obtain ⟨h1, h2, h3, h4⟩ := slotB_ok c h
  exact pe_b h1 h2 h3 h4
theorem pe_const {X : Cx} {W : WX} {e : Expr} {v : V} {d : D} {f : Loc → G → Res} (hf : ∀ loc g, f loc g = .ok false d g) (h : PE X e (tC v)) (r : ∀ ρ H, Rep R ρ H d v) : PE X e (rdE R T W f) :=
  PE.imp h fun σ H Q ⟨ρ, loc, g, S, q⟩ => by
    rw [hf] at q
    exact ans_ok S.gr (r ρ H) q
theorem SndE.int {i : Int} {j : Nat} {pos : Pos} : SndE R T cc Γ (.Constant (.int i) j pos) (.c (.int i)) := fun X W c tk => pe_const (fun _ _ => by unfold den; rfl) pe_int fun _ _ => .int i
theorem SndE.bl {b : Bool} {j : Nat} {pos : Pos} : SndE R T cc Γ (.Constant (.bool b) j pos) (.c (.bl b)) := fun X W c tk => pe_const (fun _ _ => by unfold den; rfl) pe_bl fun _ _ => .bl b
theorem SndE.str {x : Str} {j : Nat} {pos : Pos} : SndE R T cc Γ (.Constant (.str x) j pos) (.c (.str x)) := fun X W c tk => pe_const (fun _ _ => by unfold den; rfl) pe_str fun _ _ => .str x
theorem SndE.non {j : Nat} {pos : Pos} : SndE R T cc Γ (.Constant .none j pos) (.c .non) := fun X W c tk => pe_const (fun _ _ => by unfold den; rfl) pe_non fun _ _ => .non
/-- a module's number -/
theorem SndE.gint {x : Str} {i : Int} {t : Tok} {pos : Pos} (hg : globB cc x = true) (hm : R.mg x = some (.int i t)) : SndE R T cc Γ (.Name x pos) (.g x (.int i)) := fun X W c tk => by
  obtain ⟨h1, h2, h3⟩ := globB_ok c hg
  exact pe_const (fun _ _ => by unfold den; rfl) (pe_glob (v := .int i) (u := .int i t) h1 (by rw [c.gx.mg]; exact hm) ⟨t, rfl⟩ h2) fun _ _ => .int i
theorem SndE.gfn {x : Str} {a : Addr} {pos : Pos} (hg : globB cc x = true) (hm : R.mg x = some (.ref a)) : SndE R T cc Γ (.Name x pos) (.g x (.fn x)) := fun X W c tk => by
  obtain ⟨h1, h2, h3⟩ := globB_ok c hg
  exact pe_const (fun _ _ => by unfold den; rfl) (pe_glob (v := .ref a) (u := .ref a) h1 (by rw [c.gx.mg]; exact hm) rfl h2) fun _ _ => .fn hm
theorem SndE.bty {x : Str} {n : String} {pos : Pos} (hg : globB cc x = true) (hm : R.mg x = none) (hv : bootBuiltins x = some (.type n)) : SndE R T cc Γ (.Name x pos) (.bty n) := fun X W c tk => by
  obtain ⟨h1, h2, h3⟩ := globB_ok c hg
  exact pe_const (fun _ _ => by unfold den; rfl) (pe_bltn (v := .ty n) (u := .type n) h1 (by rw [c.gx.mg]; exact hm) hv rfl h3 h2) fun _ _ => .ty n

def okOp (op : Operator) : Bool := match op with | .Add | .Sub | .Mult | .FloorDiv | .Mod | .Pow => true | _ => false
theorem SndE.bin {a b : Expr} {ea eb : E} {op : Operator} {pos : Pos} (ho : okOp op = true) (ha : SndG R T cc Γ a ea) (hb : SndG R T cc Γ b eb) : SndE R T cc Γ (.BinOp a op b pos) (.bin op ea eb) := fun X W c tk => by
  refine PE.imp (pe_bin (sem := sem2 (binD op)) (op_bin c.gx op ?_) (ha X W c tk) (hb X W c tk)) fun σ H Q h => ?_
  · cases op <;> simp [okOp] at ho ⊢
  · obtain ⟨ρ, loc, g, S, q⟩ := h
    unfold den at q
    exact ⟨ρ, loc, g, S, q⟩
def okCmp (op : CmpOp) : Bool := match op with | .Eq | .NotEq | .Lt | .LtE | .Gt | .GtE | .Is | .IsNot | .In | .NotIn => true
theorem op_cmp {X : Cx} (c : CtxOk R T X cc Γ) (op : CmpOp) : OpR X (compareOp op) (fun x y H Q => rOp R T (semB (cmpD op)) [x, y] H Q) := by
  have hu := c.units
  cases op with
  | Eq => exact op_cmp_eq c.gx (by omega)
  | NotEq => exact op_cmp_ne c.gx (by omega)
  | Lt => exact op_cmp_int op_lt fun _ _ _ => cmpD_lt
  | LtE => exact op_cmp_int op_le fun _ _ _ => cmpD_le
  | Gt => exact op_cmp_int op_gt fun _ _ _ => cmpD_gt
  | GtE => exact op_cmp_int op_ge fun _ _ _ => cmpD_ge
  | Is => exact op_cmp_is c.gx
  | IsNot => exact op_cmp_isnot c.gx
  | In => exact cmp_in c.gx (by omega) false
  | NotIn => exact cmp_in c.gx (by omega) true
theorem SndE.cmp {a b : Expr} {ea eb : E} {op : CmpOp} {pos : Pos} (ha : SndG R T cc Γ a ea) (hb : SndG R T cc Γ b eb) (hm : behindInMarks op b = false := by rfl) : SndE R T cc Γ (.Compare a [op] [b] pos) (.cmp op ea eb) := fun X W c tk => by
  refine PE.imp (pe_cmp2 (sem := semB (cmpD op)) (op_cmp c op) hm (ha X W c tk) (hb X W c tk)) fun σ H Q h => ?_
  obtain ⟨ρ, loc, g, S, q⟩ := h
  unfold den at q
  exact ⟨ρ, loc, g, S, q⟩
theorem SndE.idx {a b : Expr} {ea eb : E} {pos : Pos} (ha : SndG R T cc Γ a ea) (hb : SndG R T cc Γ b eb) (hs : PlainIx b := by intro _ _; rfl) : SndE R T cc Γ (.Subscript a b pos) (.idx ea eb) := fun X W c tk => by
  refine PE.imp (pe_idx2 (sem := semV idxD) (ix_all c.gx) hs (ha X W c tk) (hb X W c tk)) fun σ H Q h => ?_
  obtain ⟨ρ, loc, g, S, q⟩ := h
  unfold den at q
  exact ⟨ρ, loc, g, S, q⟩

theorem SndE.neg {a : Expr} {ea : E} {pos : Pos} (ha : SndE R T cc Γ a ea) : SndE R T cc Γ (.UnaryOp .USub a pos) (.neg ea) := fun X W c tk => by
  refine PE.imp (pe_un un_neg (pe_frz (ha X W c tk))) fun σ H Q ⟨ρ, loc, g, S, q⟩ => ?_
  unfold den at q
  refine rd_mono (rd_bind (k := fun _ x g1 => match x with | .int i => .ok false (.int (-i)) g1 | _ => .bad) ⟨ρ, loc, g, S, q⟩) fun v H1 ⟨ρ1, loc1, d, g1, r, S1, a⟩ => ?_
  cases d <;> first | exact a.elim | skip
  rename_i i
  cases r
  exact ⟨i, rfl, ans_ok S1.gr (.int _) a⟩
theorem truth_bl {d : D} {b : Bool} (h : truth d = some b) : d = .bl b := by
  cases d <;> simp only [truth] at h <;> cases h; rfl
theorem SndE.not {a : Expr} {ea : E} {pos : Pos} (ha : SndE R T cc Γ a ea) : SndE R T cc Γ (.UnaryOp .Not a pos) (.not ea) := fun X W c tk => by
  refine PE.imp (pe_not (pe_frz (ha X W c tk))) fun σ H Q ⟨ρ, loc, g, S, q⟩ => ?_
  unfold den at q
  refine rd_mono (rd_bind (k := fun _ x g1 => match truth x with | some c => .ok false (.bl (!c)) g1 | none => .bad) ⟨ρ, loc, g, S, q⟩) fun v H1 ⟨ρ1, loc1, d, g1, r, S1, a⟩ => ?_
  cases e : truth d with
  | none => simp only [e] at a; exact a.elim
  | some b =>
    simp only [e] at a
    cases truth_bl e
    cases r
    exact ⟨b, rfl, ans_ok S1.gr (.bl _) a⟩
theorem SndE.one {a : Expr} {ea : E} {op : BoolOp} {pos : Pos} (ha : SndE R T cc Γ a ea) : SndE R T cc Γ (.BoolOp op [a] pos) ea := fun X W c tk => pe_one (ha X W c tk)
theorem SndE.and {a b : Expr} {rest : List Expr} {ea eb : E} {pos : Pos} (ha : SndE R T cc Γ a ea) (hb : SndE R T cc Γ (.BoolOp .And (b :: rest) pos) eb) : SndE R T cc Γ (.BoolOp .And (a :: b :: rest) pos) (.and ea eb) := fun X W c tk => by
  refine PE.imp (pe_and (pe_frz (ha X W c tk)) (hb X W c tk)) fun σ H Q ⟨ρ, loc, g, S, q⟩ => ?_
  unfold den at q
  refine rd_mono (rd_bind (k := fun loc x g1 => match truth x with | some true => den Γ eb loc g1 | some false => .ok false x g1 | none => .bad) ⟨ρ, loc, g, S, q⟩) fun v H1 ⟨ρ1, loc1, d, g1, r, S1, a⟩ => ?_
  cases e : truth d with
  | none => simp only [e] at a; exact a.elim
  | some b =>
    simp only [e] at a
    cases truth_bl e
    cases r
    refine ⟨b, rfl, ?_⟩
    cases b with
    | true => exact ⟨ρ1, loc1, g1, S1, a⟩
    | false => exact ans_ok S1.gr (.bl _) a
theorem SndE.or {a b : Expr} {rest : List Expr} {ea eb : E} {pos : Pos} (ha : SndE R T cc Γ a ea) (hb : SndE R T cc Γ (.BoolOp .Or (b :: rest) pos) eb) : SndE R T cc Γ (.BoolOp .Or (a :: b :: rest) pos) (.or ea eb) := fun X W c tk => by
  refine PE.imp (pe_or (pe_frz (ha X W c tk)) (hb X W c tk)) fun σ H Q ⟨ρ, loc, g, S, q⟩ => ?_
  unfold den at q
  refine rd_mono (rd_bind (k := fun loc x g1 => match truth x with | some false => den Γ eb loc g1 | some true => .ok false x g1 | none => .bad) ⟨ρ, loc, g, S, q⟩) fun v H1 ⟨ρ1, loc1, d, g1, r, S1, a⟩ => ?_
  cases e : truth d with
  | none => simp only [e] at a; exact a.elim
  | some b =>
    simp only [e] at a
    cases truth_bl e
    cases r
    refine ⟨b, rfl, ?_⟩
    cases b with
    | false => exact ⟨ρ1, loc1, g1, S1, a⟩
    | true => exact ans_ok S1.gr (.bl _) a

theorem SndT.val {e : Expr} {t : E} (h : SndE R T cc Γ e t) (he : ∀ env whole, isTrue e env whole = (do let v ← whole; standAt e.pos; holding [v] (truthy v)) := by intro _ _; rfl) : SndT R T cc Γ e t := fun X W c tk => pt_val (h X W c tk) (he X.env)
theorem SndT.cmp {a b : Expr} {ea eb : E} {op : CmpOp} {pos : Pos} (ha : SndG R T cc Γ a ea) (hb : SndG R T cc Γ b eb) (hm : behindInMarks op b = false := by rfl) : SndT R T cc Γ (.Compare a [op] [b] pos) (.cmp op ea eb) := fun X W c tk => by
  refine PT.imp (pt_cmpR (op_cmp c op) (ha X W c tk) (hb X W c tk) hm) fun σ H Q h => ?_
  refine two_op (sem := semB (cmpD op)) ?_
  obtain ⟨ρ, loc, g, S, q⟩ := h
  unfold den at q
  exact ⟨ρ, loc, g, S, q⟩
/-- a test, and what comes behind it -/
theorem rdT_bind {W : WX} {f : Loc → G → Res} {k : Loc → D → G → Res} {σ : St} {H : Hp} {Q : VK} {Q' : Bool → Hp → Prop} (h : rdE R T W (fun loc g => (f loc g).bind (k loc)) σ H Q)
    (q : ∀ c H1 ρ1 loc g1, SR R T ρ1 H1 loc g1 σ → Ans R T ρ1 H1 (k loc (.bl c) g1) Q (fun c dx H' => W c dx σ H') → Q' c H1) (hk : ∀ loc d g, truth d = none → k loc d g = .bad) : rdT R T W f σ H Q' := by
  obtain ⟨ρ, loc, g, S, a⟩ := h
  refine ⟨ρ, loc, g, S, ?_⟩
  cases e : f loc g with
  | bad => simp only [e, Res.bind] at a; exact a.elim
  | ex c fs g' => simp only [e, Res.bind] at a; exact a
  | ok own d g' =>
    simp only [e, Res.bind] at a
    intro ρ' v H' st x fr
    cases et : truth d with
    | none => rw [hk _ _ _ et] at a; exact a.elim
    | some b =>
      cases truth_bl et
      rw [x.b.bl]
      exact ⟨b, rfl, q b H' ρ' loc g' (st.sr S) (a.step st)⟩
theorem SndT.not {a : Expr} {ea : E} {pos : Pos} (ha : SndT R T cc Γ a ea) : SndT R T cc Γ (.UnaryOp .Not a pos) (.not ea) := fun X W c tk => by
  refine PT.imp (pt_not (ha X W c tk)) fun σ H Q ⟨ρ, loc, g, S, q⟩ => ?_
  unfold den at q
  refine rdT_bind (f := den Γ ea) (k := fun _ x g1 => match truth x with | some c => .ok false (.bl (!c)) g1 | none => .bad) ⟨ρ, loc, g, S, q⟩ (fun b H1 ρ1 loc1 g1 S1 a => ?_) (fun _ d g h => by simp only [h])
  obtain ⟨c', e, q'⟩ := ans_ok S1.gr (.bl _) a
  cases e
  exact q'
theorem PW.imp {X : Cx} {e : Expr} {t u : TT} (h : PW X e t) (q : ∀ σ H Q, u σ H Q → t σ H Q) : PW X e u := ⟨fun wh pins s σ H Q I x => h.run wh pins s σ H Q I (q σ H Q x)⟩
/-- and, or as tests -/
def SndW (R : RC) (T : Tab) (cc : CC) (Γ : Env') (e : Expr) (t : E) : Prop := ∀ (X : Cx) (W : WX), CtxOk R T X cc Γ → Takes X W → PW X e (rdT R T W (den Γ t))
theorem SndT.w {e : Expr} {t : E} (h : SndW R T cc Γ e t) : SndT R T cc Γ e t := fun X W c tk => (h X W c tk).pt
theorem SndW.and1 {a : Expr} {ea : E} {pos : Pos} (ha : SndT R T cc Γ a ea) : SndW R T cc Γ (.BoolOp .And [a] pos) ea := fun X W c tk => pw_and1 (ha X W c tk)
theorem SndW.or1 {a : Expr} {ea : E} {pos : Pos} (ha : SndT R T cc Γ a ea) : SndW R T cc Γ (.BoolOp .Or [a] pos) ea := fun X W c tk => pw_or1 (ha X W c tk)
theorem SndW.and {a b : Expr} {rest : List Expr} {ea eb : E} {pos : Pos} (ha : SndT R T cc Γ a ea) (hb : SndW R T cc Γ (.BoolOp .And (b :: rest) pos) eb) : SndW R T cc Γ (.BoolOp .And (a :: b :: rest) pos) (.and ea eb) := fun X W c tk => by
  refine PW.imp (pw_and (ha X W c tk) (hb X W c tk)) fun σ H Q ⟨ρ, loc, g, S, q⟩ => ?_
  unfold den at q
  refine rdT_bind (f := den Γ ea) (k := fun loc x g1 => match truth x with | some true => den Γ eb loc g1 | some false => .ok false x g1 | none => .bad) ⟨ρ, loc, g, S, q⟩ (fun b H1 ρ1 loc1 g1 S1 a => ?_) (fun _ d g h => by simp only [h])
  cases b with
  | true => exact ⟨ρ1, loc1, g1, S1, a⟩
  | false =>
    obtain ⟨c', e, q'⟩ := ans_ok S1.gr (.bl _) a
    cases e
    exact q'
theorem SndW.or {a b : Expr} {rest : List Expr} {ea eb : E} {pos : Pos} (ha : SndT R T cc Γ a ea) (hb : SndW R T cc Γ (.BoolOp .Or (b :: rest) pos) eb) : SndW R T cc Γ (.BoolOp .Or (a :: b :: rest) pos) (.or ea eb) := fun X W c tk => by
  refine PW.imp (pw_or (ha X W c tk) (hb X W c tk)) fun σ H Q ⟨ρ, loc, g, S, q⟩ => ?_
  unfold den at q
  refine rdT_bind (f := den Γ ea) (k := fun loc x g1 => match truth x with | some false => den Γ eb loc g1 | some true => .ok false x g1 | none => .bad) ⟨ρ, loc, g, S, q⟩ (fun b H1 ρ1 loc1 g1 S1 a => ?_) (fun _ d g h => by simp only [h])
  cases b with
  | false => exact ⟨ρ1, loc1, g1, S1, a⟩
  | true =>
    obtain ⟨c', e, q'⟩ := ans_ok S1.gr (.bl _) a
    cases e
    exact q'
theorem SndE.ite {t a b : Expr} {et ea eb : E} {pos : Pos} (ht : SndT R T cc Γ t et) (ha : SndE R T cc Γ a ea) (hb : SndE R T cc Γ b eb) : SndE R T cc Γ (.IfExp t a b pos) (.ite et ea eb) := fun X W c tk => by
  refine PE.imp (pe_ifExp (ht X W c tk) (ha X W c tk) (hb X W c tk)) fun σ H Q ⟨ρ, loc, g, S, q⟩ => ?_
  unfold den at q
  refine rdT_bind (f := den Γ et) (k := fun loc x g1 => match truth x with | some true => den Γ ea loc g1 | some false => den Γ eb loc g1 | none => .bad) ⟨ρ, loc, g, S, q⟩ (fun b H1 ρ1 loc1 g1 S1 a => ?_) (fun _ d g h => by simp only [h])
  cases b with
  | true => exact ⟨ρ1, loc1, g1, S1, a⟩
  | false => exact ⟨ρ1, loc1, g1, S1, a⟩
theorem lm2 {op op' : CmpOp} {b c : Expr} (h : behindInMarks op' c = false) : lastMarks [op, op'] [b, c] = false := h
theorem SndE.chn {a b c0 : Expr} {ea eb ec : E} {op op' : CmpOp} {pos : Pos} (ha : SndE R T cc Γ a ea) (hb : SndE R T cc Γ b eb) (hc : SndE R T cc Γ c0 ec) (hm : behindInMarks op' c0 = false := by rfl) : SndE R T cc Γ (.Compare a [op, op'] [b, c0] pos) (.chn op op' ea eb ec) := fun X W c tk => by
  refine PE.imp (pe_chain (op_cmp c op) (op_cmp c op') (pe_frz (ha X W c tk)) (pe_frz (hb X W c tk)) (pe_frz (hc X W c tk)) (lm2 hm)) fun σ H Q ⟨ρ, loc, g, S, q⟩ => ?_
  unfold den at q
  refine rd_mono (rd_bind (f := den Γ ea) (k := fun loc x g1 => (den Γ eb loc g1).bind fun y g2 => match cmpD op x y with
    | some true => (den Γ ec loc g2).bind fun z g3 => match cmpD op' y z with | some r => .ok false (.bl r) g3 | none => .bad
    | some false => .ok false (.bl false) g2
    | none => .bad) ⟨ρ, loc, g, S, q⟩) fun v H1 ⟨ρ1, loc1, x, g1, r1, S1, a1⟩ => ?_
  refine ⟨ρ1, loc1, g1, S1, ?_⟩
  refine (Ans.bind' S1 a1).mono fun w H2 ⟨ρ2, y, g2, st2, r2, S2, a2⟩ => ?_
  cases e1 : cmpD op x y with
  | none => simp only [e1] at a2; exact a2.elim
  | some b =>
    simp only [e1] at a2
    refine ⟨ρ2, g2, [x, y], false, .bl b, S2.gr, .cons (.inl (Rep.ext st2.n.1 (st2.ext S1.gr) r1)) (.cons (.inl r2) .nil), by simp only [semB, e1], fun z H3 k3 z3 _ => ?_⟩
    have z3' : Rep R ρ2 H3 (.bl b) z := z3
    cases z3'
    have st3 : Stp R T ρ2 ρ2 H2 H3 g2 := Stp.all S2.gr k3
    have S3 := st3.sr S2
    have r2' := Rep.ext st3.n.1 (st3.ext S2.gr) r2
    refine ⟨b, rfl, ?_⟩
    cases b with
    | false =>
      simp only [Bool.false_eq_true, if_false]
      exact ans_ok S3.gr (.bl _) (a2.step st3)
    | true =>
      simp only [if_true] at a2 ⊢
      refine ⟨ρ2, loc1, g2, S3, ?_⟩
      refine (Ans.bind' S3 (a2.step st3)).mono fun u H4 ⟨ρ4, d4, g4, st4, r4, S4, a4⟩ => ?_
      cases e2 : cmpD op' y d4 with
      | none => simp only [e2] at a4; exact a4.elim
      | some c2 =>
        simp only [e2] at a4
        refine ⟨ρ4, g4, [y, d4], false, .bl c2, S4.gr, .cons (.inl (Rep.ext st4.n.1 (st4.ext S3.gr) r2')) (.cons (.inl r4) .nil), by simp only [semB, e2], fun z4 H5 k5 z5 _ => ?_⟩
        exact a4 ρ4 z4 H5 (Stp.all S4.gr k5) z5 fun z => by cases z

def rdP (R : RC) (T : Tab) (W : WX) (f : Loc → G → ResP) : TO := fun σ H Q => ∃ ρ loc g, SR R T ρ H loc g σ ∧ match f loc g with
  | .ok o g' => ∀ ρ' H', Stp R T ρ ρ' H H' g' → Q o H'
  | .ex c fs g' => ∀ ρ' C dx H', Stp R T ρ ρ' H H' g' → R.mg c = some (.ref C) → ExcAt R ρ' H' dx fs → W (.ref C) dx σ H'
  | .bad => False
def SndP (R : RC) (T : Tab) (cc : CC) (Γ : Env') (e : Option Expr) (t : E) : Prop := ∀ (X : Cx) (W : WX), CtxOk R T X cc Γ → Takes X W → PO X e (rdP R T W (fun loc g => gP t g (den Γ t loc g)))
theorem PO.imp {X : Cx} {e : Option Expr} {t u : TO} (h : PO X e t) (q : ∀ σ H Q, u σ H Q → t σ H Q) : PO X e u := ⟨fun pins s σ H Q I x => h.run pins s σ H Q I (q σ H Q x)⟩
theorem SndP.no : SndP R T cc Γ none .no := fun X W c tk => PO.imp po_none fun σ H Q ⟨ρ, loc, g, S, q⟩ => by
  simp only [gP] at q
  exact q ρ H (Stp.refl S.gr)
theorem SndP.e {e : Expr} {t : E} (h : SndE R T cc Γ e t) (hp : plainE t = true) : SndP R T cc Γ (some e) t := fun X W c tk => PO.imp (po_some (h X W c tk)) fun σ H Q ⟨ρ, loc, g, S, q⟩ => by
  have hg : gP t g (den Γ t loc g) = match den Γ t loc g with | .ok _ (.int i) g1 => .ok (some i) g1 | .ex c fs g1 => .ex c fs g1 | _ => .bad := by
    cases t <;> first | rfl | (simp [plainE] at hp)
  dsimp only at q
  rw [hg] at q
  refine ⟨ρ, loc, g, S, ?_⟩
  cases e1 : den Γ t loc g with
  | bad => rw [e1] at q; exact q
  | ex c fs g' => rw [e1] at q; exact q
  | ok own d g' =>
    rw [e1] at q
    cases d <;> first | exact q.elim | skip
    rename_i i
    intro ρ' v H' st x _
    exact ⟨i, x.b.int, q ρ' H' st⟩
theorem SndE.slc {a : Expr} {lo hi : Option Expr} {ea el eh : E} {p2 pos : Pos} (ha : SndG R T cc Γ a ea) (hl : SndP R T cc Γ lo el) (hh : SndP R T cc Γ hi eh) : SndE R T cc Γ (.Subscript a (.Slice lo hi none p2) pos) (.slc ea el eh) := fun X W c tk => by
  refine PE.imp (pe_slice (sl_all (T := T) c.gx) (ha X W c tk) (hl X W c tk) (hh X W c tk)) fun σ H Q ⟨ρ, loc, g, S, q⟩ => ?_
  unfold den at q
  refine ⟨ρ, loc, g, S, ?_⟩
  have q1 := AnsG.bind S q
  show AnsG R T ρ H σ (gA ea loc g (den Γ ea loc g)) _ _
  cases e1 : gA ea loc g (den Γ ea loc g) with
  | bad => rw [e1] at q1; exact q1
  | ex c fs g' => rw [e1] at q1; exact q1
  | ok ax g' =>
    rw [e1] at q1
    intro ρ' v H1 st av
    obtain ⟨ρ1, a1, g1, st1, av1, S1, q2⟩ := q1 ρ' v H1 st av
    refine ⟨ρ1, loc, g1, S1, ?_⟩
    dsimp only
    cases e2 : gP el g1 (den Γ el loc g1) with
    | bad => simp only [e2, ResP.bind] at q2; exact q2
    | ex c fs g' =>
      simp only [e2, ResP.bind] at q2
      exact q2
    | ok l g2 =>
      simp only [e2, ResP.bind] at q2
      intro ρ2 H2 st2
      have S2 := st2.sr S1
      have q3 := Ans.step st2 q2
      refine ⟨ρ2, loc, g2, S2, ?_⟩
      dsimp only
      cases e3 : gP eh g2 (den Γ eh loc g2) with
      | bad => simp only [e3] at q3; exact q3
      | ex c fs g' => simp only [e3] at q3; exact q3
      | ok u g3 =>
        simp only [e3] at q3
        intro ρ3 H3 st3
        have S3 := st3.sr S2
        have q4 := Ans.step st3 q3
        obtain ⟨ds, own, d, v1, v2, q5⟩ := opOf_inv q4
        obtain ⟨d0, r0, w1, w2, rfl⟩ := vals_cons v1
        simp only [valsOf] at w2; cases w2
        have rb : RepB R ρ3 H3 d0 v := arg_val S3 ((av1.ext st2.n.1 (st2.ext S1.gr)).ext st3.n.1 (st3.ext S2.gr)) w1
        refine ⟨ρ3, g3, d0, own, d, S3.gr, rb, by cases d0 <;> exact v2, fun z H4 k4 z4 fr => q5 ρ3 z H4 (Stp.all S3.gr k4) z4 fun ho a ha => ⟨fr ho a ha, fun hm => ?_⟩⟩
        obtain ⟨o, hz, _⟩ := S3.gr.unst hm
        rw [fr ho a ha] at hz; cases hz
end
end PyD
end
section
set_option Elab.async false
set_option linter.all false
set_option maxRecDepth 100000
set_option maxHeartbeats 2000000
namespace PyD
open PySem PySem.Spec PyProof.Rows L2
section
variable {R : RC} {T : Tab} {cc : CC} {Γ : Env'}
theorem SndA.nil : SndA R T cc Γ [] [] := fun X W c tk => PA.imp pa_nil fun σ H Q ⟨ρ, loc, g, S, q⟩ => by
  unfold denA at q
  exact q ρ [] H (Stp.refl S.gr) .nil
theorem SndA.cons {e : Expr} {es : List Expr} {t : E} {ts : List E} (h : SndG R T cc Γ e t) (hr : SndA R T cc Γ es ts) (hs : ∀ env, starEach (e :: es) env = (false, eval e env) :: starEach es env := by intro _; rfl) : SndA R T cc Γ (e :: es) (t :: ts) := fun X W c tk => by
  refine PA.imp (pa_cons (h X W c tk) (hr X W c tk) (hs X.env)) fun σ H Q ⟨ρ, loc, g, S, q⟩ => ?_
  unfold denA at q
  refine ⟨ρ, loc, g, S, ?_⟩
  show AnsG R T ρ H σ (gA t loc g (den Γ t loc g)) _ _
  cases e1 : gA t loc g (den Γ t loc g) with
  | bad => rw [e1] at q; exact q
  | ex c fs g' => rw [e1] at q; exact q
  | ok a g1 =>
    rw [e1] at q
    dsimp only at q
    intro ρ1 x H1 st av
    have S1 := st.sr S
    refine ⟨ρ1, loc, g1, S1, ?_⟩
    cases e2 : denA Γ ts loc g1 with
    | bad => rw [e2] at q; exact q
    | ex c fs g' => rw [e2] at q; exact fun ρ' C dx H' a b d => q ρ' C dx H' (st.trans a) b d
    | ok as g2 =>
      rw [e2] at q
      intro ρ2 xs H2 st2 av2
      exact q ρ2 (x :: xs) H2 (st.trans st2) (.cons (av.ext st2.n.1 (st2.ext S1.gr)) av2)
section
variable {W : WX} {σ : St} {H : Hp} {Q : VK}
theorem rdA_op {fa : Loc → G → ResA} {sem : List D → Option (Bool × D)} (h : rdE R T W (fun loc g => (fa loc g).op loc sem) σ H Q) : rdA R T W fa σ H fun vs H1 => rOp R T sem vs H1 Q := by
  obtain ⟨ρ, loc, g, S, q⟩ := h
  refine ⟨ρ, loc, g, S, ?_⟩
  cases e : fa loc g with
  | bad => simp only [e, ResA.op] at q; exact q
  | ex c fs g' => simp only [e, ResA.op] at q; exact q
  | ok as g' =>
    intro ρ' vs H' st av
    have S' := st.sr S
    have q2 : Ans R T ρ H (opOf loc sem as g') Q (fun c dx H' => W c dx σ H') := by
      simp only [e, ResA.op] at q
      unfold opOf
      exact q
    exact opOf_ans S' (q2.step st) av
theorem rdA_call {fa : Loc → G → ResA} {k : Loc → List D → G → Res} (h : rdE R T W (fun loc g => (fa loc g).call (k loc)) σ H Q) :
    rdA R T W fa σ H fun vs H1 => ∃ ρ1 loc ds g1, Reps R ρ1 H1 ds vs ∧ SR R T ρ1 H1 loc g1 σ ∧ Ans R T ρ1 H1 (k loc ds g1) Q (fun c dx H' => W c dx σ H') := by
  obtain ⟨ρ, loc, g, S, q⟩ := h
  refine ⟨ρ, loc, g, S, ?_⟩
  cases e : fa loc g with
  | bad => simp only [e, ResA.call] at q; exact q
  | ex c fs g' => simp only [e, ResA.call] at q; exact q
  | ok as g' =>
    simp only [e, ResA.call] at q
    intro ρ' vs H' st av
    cases e2 : plainArgs as with
    | none => rw [e2] at q; exact q.elim
    | some ds =>
      rw [e2] at q
      exact ⟨ρ', loc, ds, g', plain_val av e2, st.sr S, Ans.step st q⟩
end

def fnB (f : String) : Bool := f == "len" || f == "abs" || f == "min" || f == "max" || f == "sum" || f == "all" || f == "any" || f == "sorted" || f == "repr" || f == "isinstance"
def tyB (f : String) : Bool := f == "int" || f == "bool" || f == "tuple" || f == "list" || f == "str"
theorem cr_fn {X : Cx} (c : CtxOk R T X cc Γ) {f : String} (h : fnB f = true) : CallR X (.builtin f) (rOp R T (biD f)) := by
  simp only [fnB, Bool.or_eq_true, beq_iff_eq] at h
  have hu := c.units
  rcases h with ((((((((h | h) | h) | h) | h) | h) | h) | h) | h) | h <;> subst h
  · exact cr_len c.gx
  · exact cr_abs c.gx
  · exact cr_minmax c.gx false
  · exact cr_minmax c.gx true
  · exact cr_sumD c.gx
  · exact cr_allD c.gx
  · exact cr_anyD c.gx
  · exact cr_sortedD c.gx hu
  · exact cr_repr c.gx hu
  · exact cr_isi c.gx
theorem cr_ty {X : Cx} (c : CtxOk R T X cc Γ) {f : String} (h : tyB f = true) : CallR X (.type f) (rOp R T (biD f)) := by
  simp only [tyB, Bool.or_eq_true, beq_iff_eq] at h
  rcases h with (((h | h) | h) | h) | h <;> subst h
  · exact cr_int c.gx
  · exact cr_bool c.gx
  · exact cr_tuple c.gx
  · exact cr_list c.gx
  · exact cr_str c.gx
theorem SndE.bi {x : Str} {f : String} {e : Expr} {es : List Expr} {t : E} {ts : List E} {p pos : Pos} (hf : fnB f = true) (hg : globB cc x = true) (hm : R.mg x = none) (hv : bootBuiltins x = some (.builtin f)) (ha : SndA R T cc Γ (e :: es) (t :: ts))
    (he : ∀ env, starEach (e :: es) env = (false, eval e env) :: starEach es env := by intro _; rfl) (hpl : ∀ env, (backTo pos (starEach es env)).any (·.1) = false := by intro _; rfl) : SndE R T cc Γ (.Call (.Name x p) (e :: es) [] pos) (.bi f (t :: ts)) := fun X W c tk => by
  obtain ⟨h1, h2, h3⟩ := globB_ok c hg
  refine PE.imp (pe_callB (cr_fn c hf) h1 (by rw [c.gx.mg]; exact hm) hv (ha X W c tk) h3 h2 (he X.env) (hpl X.env)) fun σ H Q ⟨ρ, loc, g, S, q⟩ => ?_
  unfold den at q
  exact rdA_op ⟨ρ, loc, g, S, q⟩
theorem SndE.ty {x : Str} {f : String} {e : Expr} {es : List Expr} {t : E} {ts : List E} {p pos : Pos} (hf : tyB f = true) (hg : globB cc x = true) (hm : R.mg x = none) (hv : bootBuiltins x = some (.type f)) (ha : SndA R T cc Γ (e :: es) (t :: ts))
    (he : ∀ env, starEach (e :: es) env = (false, eval e env) :: starEach es env := by intro _; rfl) (hpl : ∀ env, (backTo pos (starEach es env)).any (·.1) = false := by intro _; rfl) : SndE R T cc Γ (.Call (.Name x p) (e :: es) [] pos) (.bi f (t :: ts)) := fun X W c tk => by
  obtain ⟨h1, h2, h3⟩ := globB_ok c hg
  refine PE.imp (pe_callTy (cr_ty c hf) h1 (by rw [c.gx.mg]; exact hm) hv (ha X W c tk) h3 h2 (he X.env) (hpl X.env)) fun σ H Q ⟨ρ, loc, g, S, q⟩ => ?_
  unfold den at q
  exact rdA_op ⟨ρ, loc, g, S, q⟩
theorem SndE.mt {o e : Expr} {name : Str} {m : String} {to te : E} {apos cpos : Pos} (hn : (m = "index" ∧ name = "index") ∨ (m = "count" ∧ name = "count")) (ho : SndG R T cc Γ o to) (ha : SndA R T cc Γ [e] [te])
    (hbase : ∀ env, attributeBase o name env (eval o env) = eval o env := by intro _; rfl) (hline : (apos.endLine == cpos.line) = true := by rfl) (hs : ∀ env, starEach [e] env = (false, eval e env) :: starEach [] env := by intro _; rfl) :
    SndE R T cc Γ (.Call (.Attribute o name apos) [e] [] cpos) (.mt m to [te]) := fun X W c tk => by
  refine PE.imp (pe_mtD c.gx (by have := c.units; omega) hn (ho X W c tk) (ha X W c tk) (hbase X.env) hline (hs X.env)) fun σ H Q ⟨ρ, loc, g, S, q⟩ => ?_
  unfold den at q
  exact ⟨ρ, loc, g, S, q⟩

theorem pe_tupF {X : Cx} {es : List Expr} {t : TA} {x1} {pos : Pos} (h : PA X es t) : PE X (.Tuple es x1 pos) (fun σ H Q => t σ H fun xs H1 => xs.length ≤ sizeLine ∧ ∀ (p : Addr) (o : Obj), H1 p = none → o.dict = none → Q (.ref p) (upd H1 p (.frz o (.tup xs)))) := by
  refine ⟨fun pins s σ H Q I hq => ?_⟩
  exact wpAny_Tuple_spliced (thn (h.run pos pins s σ H _ I hq) fun us s1 ⟨xs, H1, I1, r, z, q⟩ => ⟨by rw [← r.length]; exact z, tup_new (t' := s1.toks) I1 r z q⟩)
theorem SndD.nil : SndD R T cc Γ [] [] := fun X W c tk => PA.imp pa_nil fun σ H Q ⟨ρ, loc, g, S, q⟩ => by
  unfold denD at q
  exact q ρ [] H (Stp.refl S.gr) .nil
def noStar : E → Bool
  | .star _ => false
  | _ => true
theorem denD_cons {t : E} {ts : List E} {loc : Loc} {g : G} (h : noStar t = true) : denD Γ (t :: ts) loc g = match den Γ t loc g with
    | .ok _ d g1 => match denD Γ ts loc g1 with | .ok as g2 => .ok (.v d :: as) g2 | x => x
    | .ex c fs g1 => .ex c fs g1
    | .bad => .bad := by
  cases t <;> first | ((conv => lhs; unfold denD) <;> rfl) | exact absurd h Bool.false_ne_true
theorem SndD.cons {e : Expr} {es : List Expr} {t : E} {ts : List E} (h : SndE R T cc Γ e t) (hr : SndD R T cc Γ es ts) (hn : noStar t = true := by rfl) (hs : ∀ env, starEach (e :: es) env = (false, eval e env) :: starEach es env := by intro _; rfl) : SndD R T cc Γ (e :: es) (t :: ts) := fun X W c tk => by
  refine PA.imp (pa_cons (pe_frz (h X W c tk)) (hr X W c tk) (hs X.env)) fun σ H Q ⟨ρ, loc, g, S, q⟩ => ?_
  rw [denD_cons hn] at q
  refine ⟨ρ, loc, g, S, ?_⟩
  dsimp only
  cases e1 : den Γ t loc g with
  | bad => rw [e1] at q; exact q
  | ex c fs g' => rw [e1] at q; exact q
  | ok own d g1 =>
    rw [e1] at q
    dsimp only [Res.frz] at q ⊢
    intro ρ1 x H1 st rv _
    have S1 := st.sr S
    refine ⟨ρ1, loc, g1, S1, ?_⟩
    cases e2 : denD Γ ts loc g1 with
    | bad => rw [e2] at q; exact q
    | ex c fs g' => rw [e2] at q; exact fun ρ' C dx H' a b d => q ρ' C dx H' (st.trans a) b d
    | ok as g2 =>
      rw [e2] at q
      intro ρ2 xs H2 st2 av2
      exact q ρ2 (x :: xs) H2 (st.trans st2) (.cons (Rep.ext st2.n.1 (st2.ext S1.gr) rv) av2)
theorem SndE.tup {es : List Expr} {ts : List E} {x1} {pos : Pos} (h : SndD R T cc Γ es ts) : SndE R T cc Γ (.Tuple es x1 pos) (.tup ts) := fun X W c tk => by
  refine PE.imp (pe_tupF (h X W c tk)) fun σ H Q ⟨ρ, loc, g, S, q⟩ => ?_
  unfold den at q
  obtain ⟨ρ0, loc0, g0, S0, q0⟩ := rdA_call (k := fun _ ds g1 => if decide (ds.length ≤ sizeLine) then .ok false (.tup ds) g1 else .bad) ⟨ρ, loc, g, S, q⟩
  refine ⟨ρ0, loc0, g0, S0, ?_⟩
  cases e : denD Γ ts loc0 g0 with
  | bad => rw [e] at q0; exact q0
  | ex c fs g' => rw [e] at q0; exact q0
  | ok as g' =>
    rw [e] at q0
    intro ρ' vs H' st av
    obtain ⟨ρ1, loc1, ds, g1, rr, S1, a⟩ := q0 ρ' vs H' st av
    split at a
    · rename_i hz
      have hz' : vs.length ≤ sizeLine := by rw [← rr.length]; exact of_decide_eq_true hz
      refine ⟨hz', fun p o hp hd => ?_⟩
      exact a ρ1 _ _ (Stp.new S1.gr hp) (Rep.tup (.inl ⟨o, upd_same, hd⟩) (Reps.ext (RExt.refl ρ1) (Ext.new hp) rr)) fun z => by cases z
    · exact a.elim
theorem SndE.lst {es : List Expr} {ts : List E} {pos : Pos} (h : SndD R T cc Γ es ts) : SndE R T cc Γ (.List es pos) (.lst ts) := fun X W c tk => by
  refine PE.imp (pe_lst (h X W c tk)) fun σ H Q ⟨ρ, loc, g, S, q⟩ => ?_
  unfold den at q
  obtain ⟨ρ0, loc0, g0, S0, q0⟩ := rdA_call (k := fun _ ds g1 => if decide (ds.length ≤ sizeLine) then .ok true (.lst ds) g1 else .bad) ⟨ρ, loc, g, S, q⟩
  refine ⟨ρ0, loc0, g0, S0, ?_⟩
  cases e : denD Γ ts loc0 g0 with
  | bad => rw [e] at q0; exact q0
  | ex c fs g' => rw [e] at q0; exact q0
  | ok as g' =>
    rw [e] at q0
    intro ρ' vs H' st av
    obtain ⟨ρ1, loc1, ds, g1, rr, S1, a⟩ := q0 ρ' vs H' st av
    split at a
    · rename_i hz
      have hz' : vs.length ≤ sizeLine := by rw [← rr.length]; exact of_decide_eq_true hz
      refine ⟨hz', fun p hp => ?_⟩
      refine a ρ1 _ _ (Stp.new S1.gr hp) (RepO.lst upd_same (Reps.ext (RExt.refl ρ1) (Ext.new hp) rr)) fun _ b e => ?_
      cases e
      refine ⟨hp, fun hm => ?_⟩
      obtain ⟨o, hz, _⟩ := S1.gr.unst hm
      rw [hp] at hz; cases hz
    · exact a.elim
end
end PyD
end
section
set_option Elab.async false
set_option linter.all false
set_option maxRecDepth 100000
set_option maxHeartbeats 2000000
namespace PyD
open PySem PySem.Spec PyProof.Rows L2

def SqX (K : PySem.W.Frag) (tup : Bool) (H : Hp) (a : Addr) (xs : List V) : Prop := if tup = true then SqT K H a xs else SqL K H a xs
def itX (tup : Bool) (h : Heap) (it a : Addr) (i : Nat) : Prop := if tup = true then h.IsTupleIter it a i else h.IsListIter it a i
def onX (tup : Bool) (h : Heap) (a : Addr) (items : Array Value) : Prop := if tup = true then h.IsTuple a items else h.IsList a items
def objX (tup : Bool) (a : Addr) : Obj := { cls := .type (if tup = true then "tuple_iterator" else "list_iterator"), data := .fields #[.ref a, .int 0 0] }
theorem itX.at {tup : Bool} {h h' : Heap} {it a : Addr} {i : Nat} (x : itX tup h it a i) (e : ∀ o, h.get? it = some o → h'.get? it = some o) : itX tup h' it a i := by
  cases tup with
  | true => exact Heap.IsTupleIter.at (show h.IsTupleIter it a i from x) e
  | false => exact Heap.IsListIter.at (show h.IsListIter it a i from x) e
theorem itX.obj {tup : Bool} {h : Heap} {it a : Addr} {i : Nat} (x : itX tup h it a i) : ∃ o fs, h.get? it = some o ∧ o.data = .fields fs := by
  cases tup with
  | true =>
    obtain ⟨o, e, _, d⟩ := (show h.IsTupleIter it a i from x)
    exact ⟨o, _, e, d⟩
  | false =>
    obtain ⟨o, e, _, d⟩ := (show h.IsListIter it a i from x)
    exact ⟨o, _, e, d⟩
theorem onX.obj {tup : Bool} {h : Heap} {a : Addr} {items : Array Value} (x : onX tup h a items) : ∃ o n, h.get? a = some o ∧ o.data = .seq items n := by
  cases tup with
  | true => obtain ⟨o, e, _, n, d⟩ := (show h.IsTuple a items from x); exact ⟨o, n, e, d⟩
  | false => obtain ⟨o, e, _, n, d⟩ := (show h.IsList a items from x); exact ⟨o, n, e, d⟩
theorem onX.lt {tup : Bool} {h : Heap} {a : Addr} {items : Array Value} (x : onX tup h a items) : a < h.objs.size := by
  obtain ⟨o, n, e, _⟩ := x.obj
  exact Heap.lt_size e
theorem onX.ne {tup : Bool} {h : Heap} {a b : Addr} {items : Array Value} {o : Obj} {fs : Array Value} (x : onX tup h a items) (e : h.get? b = some o) (d : o.data = .fields fs) : a ≠ b := fun z => by
  obtain ⟨o', n, e', d'⟩ := x.obj
  rw [z, e] at e'; cases e'
  rw [d] at d'; cases d'
section
variable {X : Cx} {pins : List (Addr × Obj)} {σ : St} {H : Hp} {s : Shared} {a : Addr} {xs ys : List V} {tup : Bool}
theorem sqX_on (I : L2.Inv X pins σ H s) (h : SqX X.K tup H a xs) : ∃ its : List Value, Vals xs its ∧ onX tup s.heap a its.toArray ∧ xs.length ≤ sizeLine := by
  cases tup with
  | true =>
    obtain ⟨its, r, p, z⟩ := I.tuple (show SqT X.K H a xs from h)
    exact ⟨its, r, show s.heap.IsTuple a its.toArray from p, z⟩
  | false =>
    obtain ⟨its, r, p, z⟩ := I.list (show SqL X.K H a xs from h)
    exact ⟨its, r, p.isList, z⟩
theorem sqX_inj (I : L2.Inv X pins σ H s) (h : SqX X.K tup H a xs) (h' : SqX X.K tup H a ys) : xs = ys := by
  cases tup with
  | true => exact I.tuple_inj (show SqT X.K H a xs from h) (show SqT X.K H a ys from h')
  | false => exact I.list_inj (show SqL X.K H a xs from h) (show SqL X.K H a ys from h')
end
theorem draws_X {prog : Program} {w : World} {A : Around} (hh : A.handled = none) (tup : Bool) (it a : Addr) (hne : a ≠ it) (items : Array Value) :
    Draws prog w A it [it, a] items.size (fun i v => items[i]? = some v) (fun i h => itX tup h it a i ∧ onX tup h a items) := by
  cases tup with
  | true => exact Draws.tuple hh it a hne items
  | false => exact Draws.list hh it a hne items
theorem begins_X (tup : Bool) (a : Addr) (items : Array Value) : Begins (.ref a) (objX tup a) (fun h => onX tup h a items) := by
  cases tup with
  | true => exact begins_tuple a items
  | false => exact begins_list a items
theorem itX_0 {tup : Bool} {h : Heap} {it a : Addr} (e : h.get? it = some (objX tup a)) : itX tup h it a 0 := by
  cases tup with
  | true => exact ⟨_, e, rfl, rfl⟩
  | false => exact ⟨_, e, rfl, rfl⟩

def iSeq (K : PySem.W.Frag) (tl : TE) : TI := fun σ H Rr => tl σ H fun x H1 => ∃ a, x = .ref a ∧ (((∃ xs, SqL K H1 a xs) ∧ Rr (Itl K a) H1) ∨ ((∃ xs, SqT K H1 a xs) ∧ Rr (Itt K a) H1))
theorem pi_seq {X : Cx} {tg l : Expr} {tl : TE} (hl : PE X l tl) : PI X tg l (iSeq X.K tl) := by
  refine ⟨fun pins s σ H Rr I h => ?_⟩
  refine thn (hl.run pins s σ H _ I h) fun v s1 ⟨x, H1, I1, r1, a, e, q⟩ => ?_
  subst e
  cases r1
  have fresh : ∀ (o : Obj), ∀ b ∈ [s1.heap.objs.size], FpOk X pins H1 b := fun o b hb => by
    have e : b = s1.heap.objs.size := by simpa using hb
    subst e
    exact I1.fpOk (Nat.le_refl _) (I1.hok.fresh (Nat.le_refl _))
  rcases q with ⟨⟨xs, hq⟩, q⟩ | ⟨⟨xs, hq⟩, q⟩
  · obtain ⟨its, rv, p, hz⟩ := I1.list hq
    refine wpAny_pyIter_list p.isList ?_
    exact ⟨s1.heap.objs.size, [s1.heap.objs.size], _, _, H1, rfl, I1.kept (t' := s1.toks) fun b o e => Heap.get?_push_of_some _ e, turn_list a _, ⟨_, Heap.get?_push_size _ rfl, rfl, rfl⟩, fresh {cls := .none, data := .plain}, q⟩
  · obtain ⟨its, rv, p, hz⟩ := I1.tuple hq
    refine wpAny_pyIter_tuple (show s1.heap.IsTuple a its.toArray from p) ?_
    exact ⟨s1.heap.objs.size, [s1.heap.objs.size], _, _, H1, rfl, I1.kept (t' := s1.toks) fun b o e => Heap.get?_push_of_some _ e, turn_tuple a _, ⟨_, Heap.get?_push_size _ rfl, rfl, rfl⟩, fresh {cls := .none, data := .plain}, q⟩

def ItE (K : PySem.W.Frag) (tup : Bool) (a : Addr) (k : Int) : L2.It :=
  ⟨fun i H => ∃ xs x, SqX K tup H a xs ∧ xs[i]? = some x,
   fun i H v H' => ∃ (t : Addr) (o : Obj) (x : V), v = .ref t ∧ H t = none ∧ o.dict = none ∧ H' = upd H t (.frz o (.tup [.int (k + (i : Nat)), x])) ∧ ∀ xs, SqX K tup H a xs → xs[i]? = some x,
   fun i H => ∃ xs, SqX K tup H a xs ∧ xs.length = i⟩
theorem turn_E {P : Program} {w : World} {K : PySem.W.Frag} {elts : List Expr} {kk : Nat} {tpos : Pos} (tup : Bool) (a e it : Addr) (k : Int) :
    Turn P w K (.Tuple elts kk tpos) (ItE K tup a k) [e, it] e (fun i h => (∃ old, IsEnum h e it (k + (i : Nat)) old) ∧ itX tup h it a i ∧ e ≠ it) where
  mem := by simp
  obj := fun i h st b hb => by
    obtain ⟨⟨old, he⟩, hit, _⟩ := st
    have e' : b = e ∨ b = it := by simpa using hb
    rcases e' with z | z
    · rw [z]; exact ⟨_, he, fun v q => nomatch q⟩
    · obtain ⟨o, fs, q, d⟩ := hit.obj
      rw [z]; exact ⟨o, q, fun v r => by rw [d] at r; cases r⟩
  keep := fun i h h' st k => let ⟨⟨old, he⟩, hi, hne⟩ := st; ⟨⟨old, k e (by simp) _ he⟩, hi.at fun o q => k it (by simp) o q, hne⟩
  item := by
    intro X hP hw hK hc i pins s σ H E I hf st hg
    subst hP hw hK
    obtain ⟨⟨old, he⟩, hit, hne⟩ := st
    obtain ⟨xs, x, hq, hx⟩ := hg
    obtain ⟨its, rv, p, hz⟩ := sqX_on I hq
    obtain ⟨u, hu, ru⟩ := rv.get hx
    have hel : e < s.heap.objs.size := Heap.lt_size he
    have hil : it < s.heap.objs.size := by obtain ⟨o, _, q, _⟩ := hit.obj; exact Heap.lt_size q
    have hae : a ≠ e := p.ne he rfl
    have hai : a ≠ it := by
      obtain ⟨o, fs, q, d⟩ := hit.obj
      exact p.ne q d
    have hem : e ∉ [it, a] := fun hm => by
      have : e = it ∨ e = a := by simpa using hm
      rcases this with z | z
      · exact hne z
      · exact hae z.symm
    have hlt : i < its.toArray.size := by
      have := (List.getElem?_eq_some_iff.mp hu).1
      simpa using this
    refine wpAny_pyNext_enum_itemC (draws_X (A := X.A.in1) (I.ok.hd hc) tup it a hai its.toArray) he ⟨hit, p⟩ hlt hne hem fun y h' tk hy ho hst hT hsz hk => ?_
    have ey : y = u := by
      have : its.toArray[i]? = some y := hy
      rw [show its.toArray[i]? = its[i]? by simp, hu] at this
      cases this; rfl
    subst ey
    refine ⟨_, rfl, wpAny_letOwnedTupleGo_enum (s := { s with heap := h', toks := tk + 1 }) ho fun h'' he' sb => ?_⟩
    have hT2 : h''.get? s.heap.objs.size = some { cls := .type "tuple", data := .seq #[.int (k + (i : Nat)) tk, y] } := (sb.2 _ (Nat.ne_of_gt hel)).trans hT
    have new : ObjOk X.prog X.w (upd H s.heap.objs.size (.frz { cls := .type "tuple", data := .seq #[.int (k + (i : Nat)) tk, y] } (.tup [.int (k + (i : Nat)), x]))) h'' s.heap.objs.size (.frz { cls := .type "tuple", data := .seq #[.int (k + (i : Nat)) tk, y] } (.tup [.int (k + (i : Nat)), x])) :=
      ⟨hT2, by show 2 ≤ sizeLine; decide, [.int (k + (i : Nat)) tk, y], .cons ⟨_, rfl⟩ (.cons ru .nil), ⟨_, hT2, rfl, _, rfl⟩⟩
    have I1 := I.turnedNew (t' := tk + 1) (ch := [e, it]) (fun b ob hb q => (sb.2 b (fun z => hb (by simp [z]))).trans (hk b ob (fun z => hb (by simp [z])) (fun z => hb (by simp [z])) q)) hf (Nat.le_refl _) new
    refine ⟨.ref s.heap.objs.size, _, I1, rfl, ⟨_, _, x, rfl, I.hok.fresh (Nat.le_refl _), rfl, rfl, fun ys hy => by rw [sqX_inj I hy hq]; exact hx⟩, ⟨⟨y, ?_⟩, hst.1.at fun o q => (sb.2 it (Ne.symm hne)).trans q, hne⟩, fun b hb => ?_⟩
    · have e1 : k + ((i + 1 : Nat) : Int) = k + (i : Int) + 1 := by omega
      rw [e1]; exact he'
    · have hb' : b < s.heap.objs.size := by
        have e' : b = e ∨ b = it := by simpa using hb
        rcases e' with z | z
        · rw [z]; exact hel
        · rw [z]; exact hil
      rw [upd_ne (Nat.ne_of_lt hb')]
      exact (hf b hb).1
  done := by
    intro X hP hw hK hc i pins s σ H E I hf st hg
    subst hP hw hK
    obtain ⟨⟨old, he⟩, hit, hne⟩ := st
    obtain ⟨xs, hq, hx⟩ := hg
    obtain ⟨its, rv, p, hz⟩ := sqX_on I hq
    obtain ⟨f0, f1, f2, f3, f4, f5⟩ := hf it (by simp)
    have hl := rv.length
    have hai : a ≠ it := by
      obtain ⟨o, fs, q, d⟩ := hit.obj
      exact p.ne q d
    have hn : its.toArray.size = i := by rw [List.size_toArray, ← hl, hx]
    refine wpAny_pyNext_enum_endD (n := i) (D := hn ▸ draws_X (A := X.A.in1) (I.ok.hd hc) tup it a hai its.toArray) he ⟨hit, p⟩ fun h' eb => ⟨rfl, I.turned (t' := s.toks) (fun b o hb q => eb b o hb q) f0 f1 f3 f4 f5⟩
  self := fun A i s Q E st h => let ⟨⟨_, he⟩, _⟩ := st; wpAny_pyIter_enum he h

theorem enum_new1 {v : Value} {ob : Obj} {Hh : Heap → Prop} (B : Begins v ob Hh) :
    Meets (Builtin.«enumerate.__new__» ⟨[.type "enumerate", v], []⟩) (fun _ R s => Hh s.heap ∧ R (.ok (.ret (.ref (s.heap.push ob).objs.size))) { s with heap := (s.heap.push ob).push { cls := .type "enumerate", data := .fields #[.none, .bool false, .ref s.heap.objs.size, rawInt 0, .none, .none] } }) :=
  .of_wp fun prog w A R s hh => by
    obtain ⟨hp, g, d, tk, os⟩ := s
    obtain ⟨h1, hR⟩ := hh
    have hsub := sub_enumerate
    have it_ : ∀ {A' : Around} {E : Value → Shared → Prop} {Q : Value → Shared → Prop}, Q (.ref hp.objs.size) ⟨hp.push ob, g, d, tk, os⟩ → wpAny (model prog w) A' (pyIter v) Q E ⟨hp, g, d, tk, os⟩ := fun q => B.iter prog w _ _ ⟨hp, g, d, tk, os⟩ _ h1 q
    wp_walk using it_
    refine wpAny_stack_any fun st => wpAny_pure ?_
    split
    · rename_i c _ _ _ _ _
      cases (c == Value.type "enumerate") <;> (wp_walk using it_; exact ⟨_, rfl, hR⟩)
    · wp_walk using it_
      exact ⟨_, rfl, hR⟩
theorem enum_begins1 {prog : Program} {w : World} {A : Around} {E : Value → Shared → Prop} {s : Shared} {v : Value} {ob : Obj} {Hh : Heap → Prop} {Q : Value → Shared → Prop} (B : Begins v ob Hh) (h1 : Hh s.heap)
    (hq : ∀ h', IsEnum h' (s.heap.objs.size + 1) s.heap.objs.size 0 .none → h'.get? s.heap.objs.size = some ob → (∀ b o, s.heap.get? b = some o → h'.get? b = some o) → Q (.ref (s.heap.objs.size + 1)) { s with heap := h' }) :
    wpAny (model prog w) A (call (.type "enumerate") [v]) Q E s := by
  refine callType_new F.called_enumerate (by decide) (F.typeCall_enumerate_1 _) (F.newCall_enumerate_1 _) (fun obj => F.args_object_init_2 obj _) F.entry_enumerate_new (enum_new1 B) ⟨h1, ?_⟩
  have hz : (s.heap.push ob).objs.size = s.heap.objs.size + 1 := Heap.size_push ..
  have he : IsEnum ((s.heap.push ob).push { cls := .type "enumerate", data := .fields #[.none, .bool false, .ref s.heap.objs.size, rawInt 0, .none, .none] }) (s.heap.objs.size + 1) s.heap.objs.size 0 .none := by
    have q := Heap.get?_push_size (s.heap.push ob) (o := { cls := .type "enumerate", data := .fields #[.none, .bool false, .ref s.heap.objs.size, rawInt 0, .none, .none] }) rfl
    rw [hz] at q
    exact q
  show _ ∧ _
  rw [hz]
  exact ⟨⟨_, he, rfl⟩, hq _ he (Heap.get?_push_of_some _ (Heap.get?_push_size _ B.free)) fun b o x => Heap.get?_push_of_some _ (Heap.get?_push_of_some _ x)⟩
/-- enumerate(x, k) -/
def iEnu (K : PySem.W.Frag) (ta : TA) : TI := fun σ H Rr => ta σ H fun vs H1 => ∃ (a : Addr) (tup : Bool) (xs : List V) (k : Int), (vs = [.ref a] ∧ k = 0 ∨ vs = [.ref a, .int k]) ∧ SqX K tup H1 a xs ∧ -(2 ^ 63) ≤ k ∧ k < 2 ^ 63 ∧ Rr (ItE K tup a k) H1
theorem enu_start {X : Cx} {pins : List (Addr × Obj)} {σ : St} {H : Hp} {s : Shared} {elts : List Expr} {kk : Nat} {tpos : Pos} {a : Addr} {tup : Bool} {k : Int} {Rr : L2.It → Hp → Prop} {E : Value → Shared → Prop} {h' : Heap} (I : L2.Inv X pins σ H s)
    (he : IsEnum h' (s.heap.objs.size + 1) s.heap.objs.size k .none) (hit : itX tup h' s.heap.objs.size a 0) (hk : ∀ b o, s.heap.get? b = some o → h'.get? b = some o) (q : Rr (ItE X.K tup a k) H) :
    wpAny (model X.prog X.w) X.A (pyIter (.ref (s.heap.objs.size + 1))) (PIE X pins σ (.Tuple elts kk tpos) Rr) E { s with heap := h' } := by
  refine wpAny_pyIter_enum he ?_
  refine ⟨s.heap.objs.size + 1, [s.heap.objs.size + 1, s.heap.objs.size], _, _, H, rfl, I.kept (t' := s.toks) hk, turn_E tup a (s.heap.objs.size + 1) s.heap.objs.size k, ⟨⟨.none, ?_⟩, hit, Nat.succ_ne_self _⟩, fun b hb => ?_, q⟩
  · have e1 : k + ((0 : Nat) : Int) = k := by simp
    rw [e1]; exact he
  · have e' : b = s.heap.objs.size + 1 ∨ b = s.heap.objs.size := by simpa using hb
    have hle : s.heap.objs.size ≤ b := by
      rcases e' with z | z
      · rw [z]; exact Nat.le_add_right _ _
      · rw [z]; exact Nat.le_refl _
    exact I.fpOk hle (I.hok.fresh hle)
theorem pi_enu {X : Cx} {e : Expr} {es : List Expr} {ta : TA} {p pos tpos : Pos} {elts : List Expr} {kk : Nat} (hg : Gl X "enumerate") (hm : X.mg "enumerate" = none) (ha : PA X (e :: es) ta) (hs : starEach (e :: es) X.env = (false, eval e X.env) :: starEach es X.env) (hpl : (backTo pos (starEach es X.env)).any (·.1) = false) :
    PI X (.Tuple elts kk tpos) (.Call (.Name "enumerate" p) (e :: es) [] pos) (iEnu X.K ta) := by
  refine ⟨fun pins s σ H Rr I h => ?_⟩
  refine Call_ (ld_blt I hg hm boot_enumerate (PyProof.Rows.callWith_type1 (thn (ha.run pos pins s σ H _ I h) fun us s1 ⟨vs, H1, I1, r1, a, tup, xs, k, ev, hq, k0, k1, q⟩ => ?_) hs hpl))
  obtain ⟨its, rv, p', hz⟩ := sqX_on I1 hq
  rcases ev with ⟨ev, rfl⟩ | ev
  · subst ev
    obtain ⟨u, rfl, ru⟩ := vals1 r1
    cases ru
    exact enum_begins1 (begins_X tup a its.toArray) p' fun h' he ho hk => enu_start I1 he (itX_0 ho) hk q
  · subst ev
    obtain ⟨u1, u2, rfl, r1', r2'⟩ := vals2 r1
    cases r1'
    obtain ⟨t, rfl⟩ := r2'
    exact enum_begins (begins_X tup a its.toArray) p' k0 k1 fun h' he ho hsz hk => enu_start I1 he (itX_0 ho) hk q

def ItZ (K : PySem.W.Frag) (t1 t2 : Bool) (a b : Addr) : L2.It :=
  ⟨fun i H => ∃ xs ys x y, SqX K t1 H a xs ∧ SqX K t2 H b ys ∧ xs[i]? = some x ∧ ys[i]? = some y,
   fun i H v H' => ∃ (t : Addr) (o : Obj) (x y : V), v = .ref t ∧ H t = none ∧ o.dict = none ∧ H' = upd H t (.frz o (.tup [x, y])) ∧ (∀ xs, SqX K t1 H a xs → xs[i]? = some x) ∧ ∀ ys, SqX K t2 H b ys → ys[i]? = some y,
   fun i H => ∃ xs ys, SqX K t1 H a xs ∧ SqX K t2 H b ys ∧ i ≤ xs.length ∧ i ≤ ys.length ∧ (i = xs.length ∨ i = ys.length)⟩
theorem mem5 {c z TI TO i1 i2 : Addr} (h : c ∈ [z, TI, TO, i1, i2]) : c = z ∨ c = TI ∨ c = TO ∨ c = i1 ∨ c = i2 := by simpa using h
structure ZApart (z TI TO i1 i2 : Addr) : Prop where
  TIz : TI ≠ z
  TOz : TO ≠ z
  TITO : TI ≠ TO
  TIi1 : TI ≠ i1
  TIi2 : TI ≠ i2
  zi1 : z ≠ i1
  zi2 : z ≠ i2
  TOi1 : TO ≠ i1
  TOi2 : TO ≠ i2
  ii : i1 ≠ i2
theorem zsep {z TI TO i1 i2 a b : Addr} (D : ZApart z TI TO i1 i2) (ha : a ∉ [z, TI, TO, i1, i2]) (hb : b ∉ [z, TI, TO, i1, i2]) : ZipSep2 z TI TO i1 i2 [i1, a] [i2, b] := by
  have na : ∀ {c}, c = z ∨ c = TI ∨ c = TO ∨ c = i1 ∨ c = i2 → c ≠ a := fun h e => ha (by rw [← e]; simpa using h)
  have nb : ∀ {c}, c = z ∨ c = TI ∨ c = TO ∨ c = i1 ∨ c = i2 → c ≠ b := fun h e => hb (by rw [← e]; simpa using h)
  have two : ∀ {c x y : Addr}, c ≠ x → c ≠ y → c ∉ [x, y] := fun h1 h2 hm => by
    rcases List.mem_cons.mp hm with e | hm
    · exact h1 e
    · exact h2 (by simpa using hm)
  exact ⟨D.TIz, D.TOz, D.TITO, D.TIi1, by simp, two D.zi1 (na (.inl rfl)), two D.TOi1 (na (.inr (.inr (.inl rfl)))), D.TIi2, by simp, two D.zi2 (nb (.inl rfl)), two D.TOi2 (nb (.inr (.inr (.inl rfl)))), two D.ii (nb (.inr (.inr (.inr (.inl rfl))))), two D.ii.symm (na (.inr (.inr (.inr (.inr rfl)))))⟩
theorem turn_Z {P : Program} {w : World} {K : PySem.W.Frag} {elts : List Expr} {kk : Nat} {tpos : Pos} (t1 t2 : Bool) {a b z TI TO i1 i2 : Addr} (D : ZApart z TI TO i1 i2) :
    Turn P w K (.Tuple elts kk tpos) (ItZ K t1 t2 a b) [z, TI, TO, i1, i2] z (fun i h => IsZip h z TI TO .none ∧ IsTupOf2 h TI (.ref i1) (.ref i2) ∧ (∃ x y, IsTupOf2 h TO x y) ∧ itX t1 h i1 a i ∧ itX t2 h i2 b i ∧ a ∉ [z, TI, TO, i1, i2] ∧ b ∉ [z, TI, TO, i1, i2]) where
  mem := by simp
  obj := fun i h st c hc => by
    obtain ⟨hz, hTI, ⟨x, y, hTO⟩, h1, h2, _⟩ := st
    rcases mem5 hc with q | q | q | q | q
    · rw [q]; exact ⟨_, hz, fun v q => nomatch q⟩
    · rw [q]; exact ⟨_, hTI, fun v q => nomatch q⟩
    · rw [q]; exact ⟨_, hTO, fun v q => nomatch q⟩
    · obtain ⟨o, fs, e, d⟩ := h1.obj
      rw [q]; exact ⟨o, e, fun v r => by rw [d] at r; cases r⟩
    · obtain ⟨o, fs, e, d⟩ := h2.obj
      rw [q]; exact ⟨o, e, fun v r => by rw [d] at r; cases r⟩
  keep := fun i h h' st k => by
    obtain ⟨hz, hTI, ⟨x, y, hTO⟩, h1, h2, ha, hb⟩ := st
    exact ⟨k z (by simp) _ hz, k TI (by simp) _ hTI, ⟨x, y, k TO (by simp) _ hTO⟩, h1.at fun o q => k i1 (by simp) o q, h2.at fun o q => k i2 (by simp) o q, ha, hb⟩
  item := by
    intro X hP hw hK hc i pins s σ H E I hf st hg
    subst hP hw hK
    obtain ⟨hz, hTI, ⟨x0, y0, hTO⟩, h1, h2, ha, hb⟩ := st
    obtain ⟨xs, ys, x, y, hqx, hqy, hx, hy⟩ := hg
    obtain ⟨its, rv, p, _⟩ := sqX_on I hqx
    obtain ⟨its2, rv2, p2, _⟩ := sqX_on I hqy
    obtain ⟨u, hu, ru⟩ := rv.get hx
    obtain ⟨u2, hu2, ru2⟩ := rv2.get hy
    have S := zsep D ha hb
    have l1 : i < its.toArray.size := by simpa using (List.getElem?_eq_some_iff.mp hu).1
    have l2 : i < its2.toArray.size := by simpa using (List.getElem?_eq_some_iff.mp hu2).1
    have hzl : z < s.heap.objs.size := Heap.lt_size hz
    have lts : ∀ c ∈ [z, TI, TO, i1, i2], c < s.heap.objs.size := fun c hcm => by
      rcases mem5 hcm with q | q | q | q | q
      · rw [q]; exact hzl
      · rw [q]; exact Heap.lt_size hTI
      · rw [q]; exact Heap.lt_size hTO
      · obtain ⟨_, _, e, _⟩ := h1.obj; rw [q]; exact Heap.lt_size e
      · obtain ⟨_, _, e, _⟩ := h2.obj; rw [q]; exact Heap.lt_size e
    have nin : ∀ {c : Addr}, c ∉ [z, TI, TO, i1, i2] → c ≠ z ∧ c ≠ TO ∧ c ≠ i1 ∧ c ≠ i2 := fun {c} h => ⟨fun e => h (by simp [e]), fun e => h (by simp [e]), fun e => h (by simp [e]), fun e => h (by simp [e])⟩
    refine wpAny_pyNext_zipD2_item S (draws_X (A := X.A.in1) (I.ok.hd hc) t1 i1 a (fun e => ha (by simp [e])) its.toArray) (draws_X (A := X.A.in1) (I.ok.hd hc) t2 i2 b (fun e => hb (by simp [e])) its2.toArray) hz hTI hTO ⟨h1, p⟩ ⟨h2, p2⟩ l1 l2
      fun w1 w2 h' tk e1 e2 z' TO' n1 n2 hT hsz hk => ?_
    have ew1 : w1 = u := by
      have q : its.toArray[i]? = some w1 := e1
      rw [show its.toArray[i]? = its[i]? by simp, hu] at q
      cases q; rfl
    have ew2 : w2 = u2 := by
      have q : its2.toArray[i]? = some w2 := e2
      rw [show its2.toArray[i]? = its2[i]? by simp, hu2] at q
      cases q; rfl
    subst ew1 ew2
    refine ⟨_, rfl, wpAny_letOwnedTupleGo_zip (s := { s with heap := h', toks := tk }) z' fun h'' z'' sb => ?_⟩
    have hT2 : h''.get? s.heap.objs.size = some { cls := .type "tuple", data := .seq #[w1, w2] } := (sb.2 _ (Nat.ne_of_gt hzl)).trans hT
    have new : ObjOk X.prog X.w (upd H s.heap.objs.size (.frz { cls := .type "tuple", data := .seq #[w1, w2] } (.tup [x, y]))) h'' s.heap.objs.size (.frz { cls := .type "tuple", data := .seq #[w1, w2] } (.tup [x, y])) :=
      ⟨hT2, by show 2 ≤ sizeLine; decide, [w1, w2], .cons ru (.cons ru2 .nil), ⟨_, hT2, rfl, _, rfl⟩⟩
    have I1 := I.turnedNew (t' := tk) (ch := [z, TI, TO, i1, i2]) (fun c o hcm q => (sb.2 c (fun q' => hcm (by simp [q']))).trans (let n := nin hcm; hk c o n.1 n.2.1 n.2.2.1 n.2.2.2 q)) hf (Nat.le_refl _) new
    refine ⟨.ref s.heap.objs.size, _, I1, rfl, ⟨_, _, x, y, rfl, I.hok.fresh (Nat.le_refl _), rfl, rfl, fun l hl => by rw [sqX_inj I hl hqx]; exact hx, fun l hl => by rw [sqX_inj I hl hqy]; exact hy⟩, ⟨z'', ?_, ⟨w1, w2, ?_⟩, ?_, ?_, ha, hb⟩, fun c hcm => ?_⟩
    · exact (sb.2 _ D.TIz).trans (hk _ _ D.TIz D.TITO D.TIi1 D.TIi2 hTI)
    · exact (sb.2 _ D.TOz).trans TO'
    · exact n1.1.at fun o q => (sb.2 _ D.zi1.symm).trans q
    · exact n2.1.at fun o q => (sb.2 _ D.zi2.symm).trans q
    · rw [upd_ne (Nat.ne_of_lt (lts c hcm))]
      exact (hf c hcm).1
  done := by
    intro X hP hw hK hc i pins s σ H E I hf st hg
    subst hP hw hK
    obtain ⟨hz, hTI, ⟨x0, y0, hTO⟩, h1, h2, ha, hb⟩ := st
    obtain ⟨xs, ys, hqx, hqy, l1, l2, hend⟩ := hg
    obtain ⟨its, rv, p, _⟩ := sqX_on I hqx
    obtain ⟨its2, rv2, p2, _⟩ := sqX_on I hqy
    have e1 := rv.length
    have e2 := rv2.length
    have S := zsep D ha hb
    have nin : ∀ {c : Addr}, c ∉ [z, TI, TO, i1, i2] → c ≠ z ∧ c ≠ TO ∧ c ≠ i1 ∧ c ≠ i2 := fun {c} h => ⟨fun e => h (by simp [e]), fun e => h (by simp [e]), fun e => h (by simp [e]), fun e => h (by simp [e])⟩
    exact wpAny_pyNext_zipD2_end S (draws_X (A := X.A.in1) (I.ok.hd hc) t1 i1 a (fun e => ha (by simp [e])) its.toArray) (draws_X (A := X.A.in1) (I.ok.hd hc) t2 i2 b (fun e => hb (by simp [e])) its2.toArray) hz hTI hTO ⟨h1, p⟩ ⟨h2, p2⟩ (by simp; omega) (by simp; omega) (by simp; omega)
      fun h' tk hk => ⟨rfl, I.turnedL (t' := tk) (ch := [z, TI, TO, i1, i2]) (fun c o hcm q => (let n := nin hcm; hk c o n.1 n.2.1 n.2.2.1 n.2.2.2 q)) hf⟩
  self := fun A i s Q E st h => wpAny_pyIter_zip st.1 h
def iZp (K : PySem.W.Frag) (ta : TA) : TI := fun σ H Rr => ta σ H fun vs H1 => ∃ (a b : Addr) (t1 t2 : Bool) (xs ys : List V), vs = [.ref a, .ref b] ∧ SqX K t1 H1 a xs ∧ SqX K t2 H1 b ys ∧ Rr (ItZ K t1 t2 a b) H1
theorem pi_zp {X : Cx} {e e2 : Expr} {ta : TA} {p pos tpos : Pos} {elts : List Expr} {kk : Nat} (hg : Gl X "zip") (hm : X.mg "zip" = none) (ha : PA X [e, e2] ta)
    (hs : starEach [e, e2] X.env = (false, eval e X.env) :: starEach [e2] X.env) (hpl : (backTo pos (starEach [e2] X.env)).any (·.1) = false) :
    PI X (.Tuple elts kk tpos) (.Call (.Name "zip" p) [e, e2] [] pos) (iZp X.K ta) := by
  refine ⟨fun pins s σ H Rr I h => ?_⟩
  refine Call_ (ld_blt I hg hm PyProof.Rows.boot_zip (PyProof.Rows.callWith_type1 (thn (ha.run pos pins s σ H _ I h) fun us s1 ⟨vs, H1, I1, r1, a, b, t1, t2, xs, ys, ev, hqx, hqy, q⟩ => ?_) hs hpl))
  subst ev
  obtain ⟨u1, u2, rfl, r1', r2'⟩ := vals2 r1
  cases r1'
  cases r2'
  obtain ⟨its, rv, p1, _⟩ := sqX_on I1 hqx
  obtain ⟨its2, rv2, p2, _⟩ := sqX_on I1 hqy
  have la := p1.lt
  have lb := p2.lt
  refine zip_begins2 (begins_X t1 a its.toArray) (begins_X t2 b its2.toArray) p1 p2 fun h' hz hTI hTO h1 h2 hsz hk => wpAny_pyIter_zip hz ?_
  have D : ZApart (s1.heap.objs.size + 4) (s1.heap.objs.size + 2) (s1.heap.objs.size + 3) s1.heap.objs.size (s1.heap.objs.size + 1) := by
    constructor <;> (show (_ : Nat) ≠ _; omega)
  have big : ∀ c ∈ [s1.heap.objs.size + 4, s1.heap.objs.size + 2, s1.heap.objs.size + 3, s1.heap.objs.size, s1.heap.objs.size + 1], s1.heap.objs.size ≤ c := fun c hcm => by
    rcases mem5 hcm with z | z | z | z | z <;> (rw [z]; first | exact Nat.le_add_right _ _ | exact Nat.le_refl _)
  exact ⟨s1.heap.objs.size + 4, [s1.heap.objs.size + 4, s1.heap.objs.size + 2, s1.heap.objs.size + 3, s1.heap.objs.size, s1.heap.objs.size + 1], _, _, H1, rfl, I1.kept (t' := s1.toks) hk, turn_Z t1 t2 D,
    ⟨hz, hTI, ⟨_, _, hTO⟩, itX_0 h1, itX_0 h2, fun hm => Nat.lt_irrefl _ (Nat.lt_of_lt_of_le la (big a hm)), fun hm => Nat.lt_irrefl _ (Nat.lt_of_lt_of_le lb (big b hm))⟩, fun c hcm => I1.fpOk (big c hcm) (I1.hok.fresh (big c hcm)), q⟩
end PyD
end
section
set_option Elab.async false
set_option linter.all false
set_option maxRecDepth 100000
set_option maxHeartbeats 2000000
namespace PyD
open PySem PySem.Spec PyProof.Rows L2
/-- J walks ds, as long as Src stands -/
def JL (R : RC) (ρ : List (List Addr)) (H1 : Hp) (J : L2.It) (ds : List D) (Src : Hp → Prop) : Prop :=
  ∀ H' ρ', RExt ρ ρ' → Ext H1 H' → Src H' → (∀ i, i < ds.length → J.go i H') ∧ (∀ i x H'', i < ds.length → J.yld i H' x H'' → (∀ b o, H' b = some o → H'' b = some o) ∧ ∃ d, ds[i]? = some d ∧ Rep R ρ' H'' d x) ∧ J.stop ds.length H'
def rdI (R : RC) (T : Tab) (W : WX) (fz : Bool) (f : Loc → G → ResL) : TI := fun σ H Rr => ∃ ρ loc g, SR R T ρ H loc g σ ∧ match f loc g with
  | .ok ds g' => ∀ ρ' J H1 Src, Stp R T ρ ρ' H H1 g' → JL R ρ' H1 J ds Src → Src H1 → (∀ H2, (fz = false → Keep ρ' H1 H2) → Ext H1 H2 → Src H2) → Rr J H1
  | .ex c fs g' => ∀ ρ' C dx H', Stp R T ρ ρ' H H' g' → R.mg c = some (.ref C) → ExcAt R ρ' H' dx fs → W (.ref C) dx σ H'
  | .bad => False
theorem PI.imp {X : Cx} {tg e : Expr} {t u : TI} (h : PI X tg e t) (q : ∀ σ H Rr, u σ H Rr → t σ H Rr) : PI X tg e u := ⟨fun pins s σ H Rr I x => h.run pins s σ H Rr I (q σ H Rr x)⟩
section
variable {R : RC} {T : Tab} {cc : CC} {Γ : Env'} {ρ : List (List Addr)} {H : Hp} {loc : Loc} {g : G} {σ : St}
theorem SqX.of {K : PySem.W.Frag} {a : Addr} {xs : List V} (tup : Bool) (h : (tup = false ∧ SqL K H a xs) ∨ (tup = true ∧ SqT K H a xs)) : SqX K tup H a xs := by
  rcases h with ⟨e, h⟩ | ⟨e, h⟩ <;> subst e <;> exact h
theorem src_rep {d : D} {ds : List D} {x : V} (e : d.items = some ds) (r : Rep R ρ H d x) : ∃ a vs, x = .ref a ∧ Reps R ρ H ds vs ∧ ∀ H2, Ext H H2 → SqX R.K d.isTup H2 a vs := by
  cases d <;> simp only [D.items] at e <;> cases e
  · cases r with | tup h r => exact ⟨_, _, rfl, r, fun H2 x => SqX.of true (.inr ⟨rfl, (h.ext x).seq⟩)⟩
  · cases r with | lst h r => exact ⟨_, _, rfl, r, fun H2 x => SqX.of false (.inl ⟨rfl, (h.ext x).seq⟩)⟩
  · cases r with | scr h => exact ⟨_, _, rfl, Reps.ints _, fun H2 x => SqX.of false (.inl ⟨rfl, (h.ext x).seq⟩)⟩
theorem src_arg {a : Arg} {d : D} {ds : List D} {x : V} (S : SR R T ρ H loc g σ) (av : ArgAt R ρ H σ a x) (ev : a.val loc = some d) (e : d.items = some ds) : ∃ p vs, x = .ref p ∧ Reps R ρ H ds vs ∧ ∀ H2, Keep ρ H H2 → Ext H H2 → SqX R.K d.isTup H2 p vs := by
  cases a with
  | v d' =>
    cases ev
    obtain ⟨p, vs, h1, h2, h3⟩ := src_rep e (show Rep R ρ H d x from av)
    exact ⟨p, vs, h1, h2, fun H2 _ x => h3 H2 x⟩
  | b i =>
    have ev' : loc.at i = some d := ev
    unfold Loc.at at ev'
    split at ev'
    · rename_i own d' hl
      cases ev'
      obtain ⟨v, e1, e2⟩ := S.sl i own d hl
      have e3 : σ[i]? = some (some x) := av
      rw [e1] at e3; cases e3
      cases own with
      | false =>
        obtain ⟨p, vs, h1, h2, h3⟩ := src_rep e e2.f
        exact ⟨p, vs, h1, h2, fun H2 _ x => h3 H2 x⟩
      | true =>
        have e2' := e2.t
        cases e2' with
        | @lst p ds' vs h r =>
          simp only [D.items] at e; cases e
          exact ⟨p, vs, rfl, r, fun H2 k _ => SqX.of false (.inl ⟨rfl, .inl (.inl (k.st p _ h (S.off i _ p hl e1) fun ps z => by cases z))⟩)⟩
        | ins h m r => simp [D.items] at e
    · cases ev'
theorem jl_seq {K : PySem.W.Frag} {a : Addr} {ds : List D} {vs : List V} (hK : K = R.K) (r : Reps R ρ H ds vs) (tup : Bool) : JL R ρ H (if tup = true then Itt K a else Itl K a) ds (fun H' => SqX K tup H' a vs) := fun H' ρ' x e sq => by
  have hl := r.length
  have get : ∀ i, i < ds.length → ∃ d y, ds[i]? = some d ∧ vs[i]? = some y ∧ Rep R ρ H d y := fun i hi => by
    obtain ⟨y, h1, h2⟩ := r.get (List.getElem?_eq_getElem hi)
    exact ⟨_, y, List.getElem?_eq_getElem hi, h1, h2⟩
  cases tup with
  | true =>
    have sq' : SqT K H' a vs := sq
    refine ⟨fun i hi => ?_, fun i y H'' hi hy => ?_, ⟨vs, sq', by rw [hl]; exact Nat.le_refl _⟩⟩
    · obtain ⟨d, y, h1, h2, h3⟩ := get i hi
      exact ⟨vs, y, sq', h2⟩
    · obtain ⟨d, z, h1, h2, h3⟩ := get i hi
      obtain ⟨rfl, hy⟩ := hy
      have := hy vs sq'
      rw [h2] at this; cases this
      exact ⟨fun _ _ h => h, d, h1, Rep.ext x e h3⟩
  | false =>
    have sq' : SqL K H' a vs := sq
    refine ⟨fun i hi => ?_, fun i y H'' hi hy => ?_, ⟨vs, sq', by rw [hl]; exact Nat.le_refl _⟩⟩
    · obtain ⟨d, y, h1, h2, h3⟩ := get i hi
      exact ⟨vs, y, sq', h2⟩
    · obtain ⟨d, z, h1, h2, h3⟩ := get i hi
      obtain ⟨rfl, hy⟩ := hy
      have := hy vs sq'
      rw [h2] at this; cases this
      exact ⟨fun _ _ h => h, d, h1, Rep.ext x e h3⟩
theorem enuD_get : ∀ (ds : List D) (k : Int) (i : Nat), (enuD k ds)[i]? = (ds[i]?).map fun d => D.tup [.int (k + (i : Nat)), d]
  | [], k, i => by simp [enuD]
  | d :: ds, k, 0 => by simp [enuD]
  | d :: ds, k, i + 1 => by
    simp only [enuD, List.getElem?_cons_succ]
    rw [enuD_get ds (k + 1) i]
    cases ds[i]? with
    | none => rfl
    | some y =>
      simp only [Option.map_some]
      have : k + 1 + (i : Int) = k + ((i + 1 : Nat) : Int) := by omega
      rw [this]
theorem enuD_length : ∀ (ds : List D) (k : Int), (enuD k ds).length = ds.length
  | [], _ => rfl
  | d :: ds, k => by simp [enuD, enuD_length ds]
theorem jl_enu {K : PySem.W.Frag} {a : Addr} {ds : List D} {vs : List V} (hK : K = R.K) (r : Reps R ρ H ds vs) (tup : Bool) (k : Int) : JL R ρ H (ItE K tup a k) (enuD k ds) (fun H' => SqX K tup H' a vs) := fun H' ρ' x e sq => by
  have hl := r.length
  refine ⟨fun i hi => ?_, fun i y H'' hi hy => ?_, ⟨vs, sq, by rw [enuD_length, hl]⟩⟩
  · rw [enuD_length] at hi
    obtain ⟨y, h1, h2⟩ := r.get (List.getElem?_eq_getElem hi)
    exact ⟨vs, y, sq, h1⟩
  · rw [enuD_length] at hi
    obtain ⟨z, h1, h2⟩ := r.get (List.getElem?_eq_getElem hi)
    obtain ⟨t, o, z', rfl, hn, hd, rfl, hz⟩ := hy
    have := hz vs sq
    rw [h1] at this; cases this
    refine ⟨upd_all hn, _, by rw [enuD_get, List.getElem?_eq_getElem hi]; rfl, ?_⟩
    exact .tup (.inl ⟨o, upd_same, hd⟩) (.cons (.int _) (.cons (Rep.ext x (e.trans (Ext.new hn)) h2) .nil))
theorem jl_zip {K : PySem.W.Frag} {a b : Addr} {ds es : List D} {vs us : List V} (hK : K = R.K) (r : Reps R ρ H ds vs) (r' : Reps R ρ H es us) (t1 t2 : Bool) : JL R ρ H (ItZ K t1 t2 a b) ((ds.zip es).map fun p => D.tup [p.1, p.2]) (fun H' => SqX K t1 H' a vs ∧ SqX K t2 H' b us) := fun H' ρ' x e sq => by
  have hl := r.length
  have hl' := r'.length
  have len : ((ds.zip es).map fun p => D.tup [p.1, p.2]).length = min ds.length es.length := by simp
  refine ⟨fun i hi => ?_, fun i y H'' hi hy => ?_, ?_⟩
  · rw [len] at hi
    obtain ⟨y1, h1, h2⟩ := r.get (List.getElem?_eq_getElem (i := i) (by omega))
    obtain ⟨y2, h3, h4⟩ := r'.get (List.getElem?_eq_getElem (i := i) (by omega))
    exact ⟨vs, us, y1, y2, sq.1, sq.2, h1, h3⟩
  · rw [len] at hi
    have i1 : i < ds.length := by omega
    have i2 : i < es.length := by omega
    obtain ⟨y1, h1, h2⟩ := r.get (List.getElem?_eq_getElem i1)
    obtain ⟨y2, h3, h4⟩ := r'.get (List.getElem?_eq_getElem i2)
    obtain ⟨t, o, z1, z2, rfl, hn, hd, rfl, e1, e2⟩ := hy
    have q1 := e1 vs sq.1
    have q2 := e2 us sq.2
    rw [h1] at q1; cases q1
    rw [h3] at q2; cases q2
    refine ⟨upd_all hn, D.tup [ds[i], es[i]], (List.getElem?_eq_getElem (by rw [len]; exact hi)).trans (by simp), ?_⟩
    exact .tup (.inl ⟨o, upd_same, hd⟩) (.cons (Rep.ext x (e.trans (Ext.new hn)) h2) (.cons (Rep.ext x (e.trans (Ext.new hn)) h4) .nil))
  · refine ⟨vs, us, sq.1, sq.2, ?_⟩
    rw [len]
    omega
end

def SndI (R : RC) (T : Tab) (cc : CC) (Γ : Env') (fz : Bool) (tg e : Expr) (it : It) : Prop := ∀ (X : Cx) (W : WX), CtxOk R T X cc Γ → Takes X W → PI X tg e (rdI R T W fz (denI Γ it))
section
variable {R : RC} {T : Tab} {cc : CC} {Γ : Env'}
theorem SndI.seq {tg e : Expr} {t : E} (h : SndG R T cc Γ e t) : SndI R T cc Γ false tg e (.seq t) := fun X W c tk => by
  refine PI.imp (pi_seq (h X W c tk)) fun σ H Rr ⟨ρ, loc, g, S, q⟩ => ?_
  unfold denI at q
  refine ⟨ρ, loc, g, S, ?_⟩
  show AnsG R T ρ H σ (gA t loc g (den Γ t loc g)) _ _
  cases e1 : gA t loc g (den Γ t loc g) with
  | bad => rw [e1] at q; exact q.elim
  | ex c fs g' => rw [e1] at q; exact q
  | ok a g1 =>
    rw [e1] at q
    dsimp only at q
    cases e2 : a.val loc with
    | none => rw [e2] at q; exact q.elim
    | some d =>
      rw [e2] at q
      dsimp only at q
      cases e3 : d.items with
      | none => rw [e3] at q; exact q.elim
      | some ds =>
        rw [e3] at q
        intro ρ' v H1 st av
        obtain ⟨p, vs, rfl, rr, keep⟩ := src_arg (st.sr S) av e2 e3
        have now := keep H1 (Keep.refl _ _) (Ext.refl _)
        have jl := jl_seq (a := p) (c.gx.K) rr d.isTup
        refine ⟨p, rfl, ?_⟩
        cases ht : d.isTup with
        | false =>
          rw [ht] at now jl keep
          exact .inl ⟨⟨vs, c.gx.K ▸ (show SqL R.K H1 p vs from now)⟩, q ρ' _ H1 _ st (c.gx.K ▸ jl) (c.gx.K ▸ now) fun H2 k x => c.gx.K ▸ keep H2 (k rfl) x⟩
        | true =>
          rw [ht] at now jl keep
          exact .inr ⟨⟨vs, c.gx.K ▸ (show SqT R.K H1 p vs from now)⟩, q ρ' _ H1 _ st (c.gx.K ▸ jl) (c.gx.K ▸ now) fun H2 k x => c.gx.K ▸ keep H2 (k rfl) x⟩
theorem SndI.seqF {tg e : Expr} {t : E} (h : SndE R T cc Γ e t) (hp : plainE t = true) : SndI R T cc Γ true tg e (.seq t) := fun X W c tk => by
  refine PI.imp (pi_seq (pe_frz (h X W c tk))) fun σ H Rr ⟨ρ, loc, g, S, q⟩ => ?_
  unfold denI at q
  have hg : gA t loc g (den Γ t loc g) = match den Γ t loc g with | .ok _ d g1 => .ok (.v d) g1 | .ex c fs g1 => .ex c fs g1 | .bad => .bad := by
    cases t <;> first | rfl | (simp [plainE] at hp)
  rw [hg] at q
  refine ⟨ρ, loc, g, S, ?_⟩
  dsimp only
  cases e1 : den Γ t loc g with
  | bad => rw [e1] at q; exact q.elim
  | ex c fs g' => rw [e1] at q; exact q
  | ok own d g1 =>
    rw [e1] at q
    dsimp only [Arg.val, Res.frz] at q ⊢
    cases e3 : d.items with
    | none => rw [e3] at q; exact q.elim
    | some ds =>
      rw [e3] at q
      intro ρ' v H1 st rv _
      obtain ⟨p, vs, rfl, rr, keep⟩ := src_rep e3 (show Rep R ρ' H1 d v from rv)
      have now := keep H1 (Ext.refl _)
      have jl := jl_seq (a := p) (c.gx.K) rr d.isTup
      refine ⟨p, rfl, ?_⟩
      cases ht : d.isTup with
      | false =>
        rw [ht] at now jl keep
        exact .inl ⟨⟨vs, c.gx.K ▸ (show SqL R.K H1 p vs from now)⟩, q ρ' _ H1 _ st (c.gx.K ▸ jl) (c.gx.K ▸ now) fun H2 k x => c.gx.K ▸ keep H2 x⟩
      | true =>
        rw [ht] at now jl keep
        exact .inr ⟨⟨vs, c.gx.K ▸ (show SqT R.K H1 p vs from now)⟩, q ρ' _ H1 _ st (c.gx.K ▸ jl) (c.gx.K ▸ now) fun H2 k x => c.gx.K ▸ keep H2 x⟩

theorem denA_len : ∀ {ts : List E} {loc : Loc} {g g' : G} {as : List Arg}, denA Γ ts loc g = .ok as g' → as.length = ts.length
  | [], loc, g, g', as, h => by unfold denA at h; cases h; rfl
  | t :: ts, loc, g, g', as, h => by
    unfold denA at h
    split at h
    · split at h
      · rename_i e2; cases h; simp [denA_len e2]
      · rename_i hh
        exact absurd h (hh _ _)
    · cases h
    · cases h
theorem valsOf_len : ∀ {as : List Arg} {loc : Loc} {ds : List D}, valsOf loc as = some ds → ds.length = as.length
  | [], _, _, h => by cases h; rfl
  | a :: as, loc, ds, h => by
    obtain ⟨d, r, _, h2, rfl⟩ := vals_cons h
    simp [valsOf_len h2]
/-- arguments, then what is walked -/
theorem rdA_I {W : WX} {fa : Loc → G → ResA} {sem : List D → Option (List D)} {fz : Bool} {σ : St} {H : Hp} {Rr : L2.It → Hp → Prop}
    (h : rdI R T W fz (fun loc g => match fa loc g with | .ok as g1 => (match valsOf loc as with | some ds => (match sem ds with | some l => .ok l g1 | none => .bad) | none => .bad) | .ex c fs g1 => .ex c fs g1 | .bad => .bad) σ H Rr) :
    rdA R T W fa σ H fun vs H1 => ∃ ρ1 loc g1 as ds l, (∃ loc0 g0, fa loc0 g0 = .ok as g1) ∧ SR R T ρ1 H1 loc g1 σ ∧ ArgsAt R ρ1 H1 σ as vs ∧ valsOf loc as = some ds ∧ sem ds = some l ∧
      ∀ J Src, JL R ρ1 H1 J l Src → Src H1 → (∀ H2, (fz = false → Keep ρ1 H1 H2) → Ext H1 H2 → Src H2) → Rr J H1 := by
  obtain ⟨ρ, loc, g, S, q⟩ := h
  refine ⟨ρ, loc, g, S, ?_⟩
  dsimp only at q
  cases e : fa loc g with
  | bad => rw [e] at q; exact q
  | ex c fs g' => rw [e] at q; exact q
  | ok as g1 =>
    rw [e] at q
    dsimp only at q
    cases e1 : valsOf loc as with
    | none => rw [e1] at q; exact q.elim
    | some ds =>
      rw [e1] at q
      dsimp only at q
      cases e2 : sem ds with
      | none => rw [e2] at q; exact q.elim
      | some l =>
        rw [e2] at q
        intro ρ' vs H1 st av
        exact ⟨ρ', loc, g1, as, ds, l, ⟨loc, g, e⟩, st.sr S, av, e1, e2, fun J Src jl s0 k => q ρ' J H1 Src st jl s0 k⟩
theorem small_of {i : Int} (h : small62 i = true) : -(2 ^ 62) ≤ i ∧ i < 2 ^ 62 := by
  exact small62_iff.mp h
theorem jl_rng {ρ : List (List Addr)} {H : Hp} (lo : Int) (n : Nat) : JL R ρ H (Itr lo n) ((List.range n).map fun (k : Nat) => D.int (lo + (k : Int))) (fun _ => True) := fun H' ρ' x e _ => by
  refine ⟨fun i hi => by rw [List.length_map, List.length_range] at hi; exact hi, fun i y H'' hi hy => ?_, by show n ≤ _; simp⟩
  have hi' : i < n := by simpa using hi
  obtain ⟨rfl, rfl⟩ := hy
  exact ⟨fun _ _ h => h, _, by simp [hi'], .int _⟩
theorem jl_rngC {ρ : List (List Addr)} {H : Hp} (lo : Int) (n : Nat) : JL R ρ H (Itc lo (-1) n) ((List.range n).map fun (k : Nat) => D.int (lo + (k : Int) * (-1))) (fun _ => True) := fun H' ρ' x e _ => by
  refine ⟨fun i hi => by rw [List.length_map, List.length_range] at hi; exact hi, fun i y H'' hi hy => ?_, by show n ≤ _; simp⟩
  have hi' : i < n := by simpa using hi
  obtain ⟨rfl, rfl⟩ := hy
  exact ⟨fun _ _ h => h, _, by simp [hi'], .int _⟩
theorem SndI.rng1 {tg a : Expr} {t : E} {p pos : Pos} {fz : Bool} (hg : globB cc "range" = true) (hm : R.mg "range" = none) (ha : SndA R T cc Γ [a] [t]) (hs : ∀ env, starEach [a] env = [(false, eval a env)] := by intro _; rfl) : SndI R T cc Γ fz tg (.Call (.Name "range" p) [a] [] pos) (.rng [t]) := fun X W c tk => by
  obtain ⟨h1, _, _⟩ := globB_ok c hg
  refine PI.imp (pi_range1 h1 (by rw [c.gx.mg]; exact hm) (ha X W c tk) (hs X.env)) fun σ H Rr h => ?_
  have h' := rdA_I (sem := rngD) (by obtain ⟨ρ, loc, g, S, q⟩ := h; unfold denI at q; exact ⟨ρ, loc, g, S, q⟩)
  obtain ⟨ρ, loc, g, S, q⟩ := h'
  refine ⟨ρ, loc, g, S, ?_⟩
  cases e : denA Γ [t] loc g with
  | bad => rw [e] at q; exact q
  | ex c fs g' => rw [e] at q; exact q
  | ok as g1 =>
    rw [e] at q
    intro ρ' vs H1 st av
    obtain ⟨ρ1, loc1, g2, as2, ds, l, ⟨l0, g0, e0⟩, S1, av2, ev, es, k⟩ := q ρ' vs H1 st av
    have rb := args_val S1 av2 ev
    have hlen : ds.length = 1 := by rw [valsOf_len ev, denA_len e0]; rfl
    unfold rngD at es
    split at es
    · rename_i n
      split at es
      · rename_i hs2; cases es
        cases rb with
        | cons b1 t1 =>
          cases t1
          have := b1.int; subst this
          obtain ⟨q1, q2⟩ := small_of hs2
          exact ⟨n, rfl, q1, q2, k _ _ (jl_rng 0 n.toNat) trivial fun _ _ _ => trivial⟩
      · cases es
    · simp at hlen
    · simp at hlen
    · cases es
theorem SndI.rng2 {tg a b : Expr} {t u : E} {p pos : Pos} {fz : Bool} (hg : globB cc "range" = true) (hm : R.mg "range" = none) (ha : SndA R T cc Γ [a, b] [t, u]) (hs : ∀ env, starEach [a, b] env = [(false, eval a env), (false, eval b env)] := by intro _; rfl)
    (hs2 : ∀ env, starEach [b] env = [(false, eval b env)] := by intro _; rfl) : SndI R T cc Γ fz tg (.Call (.Name "range" p) [a, b] [] pos) (.rng [t, u]) := fun X W c tk => by
  obtain ⟨h1, _, _⟩ := globB_ok c hg
  refine PI.imp (pi_range2 h1 (by rw [c.gx.mg]; exact hm) (ha X W c tk) (hs X.env) (hs2 X.env)) fun σ H Rr h => ?_
  have h' := rdA_I (sem := rngD) (by obtain ⟨ρ, loc, g, S, q⟩ := h; unfold denI at q; exact ⟨ρ, loc, g, S, q⟩)
  obtain ⟨ρ, loc, g, S, q⟩ := h'
  refine ⟨ρ, loc, g, S, ?_⟩
  cases e : denA Γ [t, u] loc g with
  | bad => rw [e] at q; exact q
  | ex c fs g' => rw [e] at q; exact q
  | ok as g1 =>
    rw [e] at q
    intro ρ' vs H1 st av
    obtain ⟨ρ1, loc1, g2, as2, ds, l, ⟨l0, g0, e0⟩, S1, av2, ev, es, k⟩ := q ρ' vs H1 st av
    have rb := args_val S1 av2 ev
    have hlen : ds.length = 2 := by rw [valsOf_len ev, denA_len e0]; rfl
    unfold rngD at es
    split at es
    · simp at hlen
    · rename_i x y
      split at es
      · rename_i hs3; cases es
        simp only [Bool.and_eq_true] at hs3
        cases rb with
        | cons b1 t1 =>
          cases t1 with
          | cons b2 t2 =>
            cases t2
            have := b1.int; subst this
            have := b2.int; subst this
            obtain ⟨q1, q2⟩ := small_of hs3.1
            obtain ⟨q3, q4⟩ := small_of hs3.2
            exact ⟨x, y, rfl, ⟨q1, q2, q3, q4⟩, k _ _ (jl_rng x (y - x).toNat) trivial fun _ _ _ => trivial⟩
      · cases es
    · simp at hlen
    · cases es
theorem SndI.rng3 {tg a b d : Expr} {t u v : E} {p pos : Pos} {fz : Bool} (hg : globB cc "range" = true) (hm : R.mg "range" = none) (ha : SndA R T cc Γ [a, b, d] [t, u, v]) (hs : ∀ env, starEach [a, b, d] env = (false, eval a env) :: starEach [b, d] env := by intro _; rfl)
    (hpl : ∀ env, (backTo pos (starEach [b, d] env)).any (·.1) = false := by intro _; rfl) : SndI R T cc Γ fz tg (.Call (.Name "range" p) [a, b, d] [] pos) (.rng [t, u, v]) := fun X W c tk => by
  obtain ⟨h1, _, _⟩ := globB_ok c hg
  refine PI.imp (pi_range3 h1 (by rw [c.gx.mg]; exact hm) (ha X W c tk) (hs X.env) (hpl X.env)) fun σ H Rr h => ?_
  have h' := rdA_I (sem := rngD) (by obtain ⟨ρ, loc, g, S, q⟩ := h; unfold denI at q; exact ⟨ρ, loc, g, S, q⟩)
  obtain ⟨ρ, loc, g, S, q⟩ := h'
  refine ⟨ρ, loc, g, S, ?_⟩
  cases e : denA Γ [t, u, v] loc g with
  | bad => rw [e] at q; exact q
  | ex c fs g' => rw [e] at q; exact q
  | ok as g1 =>
    rw [e] at q
    intro ρ' vs H1 st av
    obtain ⟨ρ1, loc1, g2, as2, ds, l, ⟨l0, g0, e0⟩, S1, av2, ev, es, k⟩ := q ρ' vs H1 st av
    have rb := args_val S1 av2 ev
    have hlen : ds.length = 3 := by rw [valsOf_len ev, denA_len e0]; rfl
    unfold rngD at es
    split at es
    · simp at hlen
    · simp at hlen
    · rename_i x y z
      split at es
      · rename_i hs3; cases es
        simp only [Bool.and_eq_true, decide_eq_true_eq] at hs3
        obtain ⟨rfl, hs3, hs4⟩ := hs3
        cases rb with
        | cons b1 t1 =>
          cases t1 with
          | cons b2 t2 =>
            cases t2 with
            | cons b3 t3 =>
              cases t3
              have := b1.int; subst this
              have := b2.int; subst this
              have := b3.int; subst this
              obtain ⟨q1, q2⟩ := small_of hs3
              obtain ⟨q3, q4⟩ := small_of hs4
              exact ⟨x, y, -1, _, rfl, RgC.neg q1 q2 q3 q4, k _ _ (jl_rngC x (x - y).toNat) trivial fun _ _ _ => trivial⟩
      · cases es
    · cases es
def allPlain : List E → Bool
  | [] => true
  | t :: ts => plainE t && allPlain ts
theorem gA_eq {t : E} {loc : Loc} {g : G} (hp : plainE t = true) (r : Res) : gA t loc g r = match r with | .ok _ d g1 => .ok (.v d) g1 | .ex c fs g1 => .ex c fs g1 | .bad => .bad := by
  cases t <;> first | rfl | (simp [plainE] at hp)
theorem gA_plain {t : E} {loc : Loc} {g : G} {r : Res} {a : Arg} {g' : G} (hp : plainE t = true) (h : gA t loc g r = .ok a g') : ∃ d, a = .v d := by
  rw [gA_eq hp] at h
  cases r with
  | ok own d g1 => cases h; exact ⟨_, rfl⟩
  | ex c fs g1 => cases h
  | bad => cases h
theorem denA_plain : ∀ {ts : List E} {loc : Loc} {g g' : G} {as : List Arg}, allPlain ts = true → denA Γ ts loc g = .ok as g' → ∀ a ∈ as, ∃ d, a = .v d
  | [], loc, g, g', as, _, h => by unfold denA at h; cases h; intro a ha; cases ha
  | t :: ts, loc, g, g', as, hp, h => by
    simp only [allPlain, Bool.and_eq_true] at hp
    unfold denA at h
    split at h
    · rename_i a0 g1 e1
      split at h
      · rename_i e2
        cases h
        intro a ha
        rcases List.mem_cons.mp ha with e | ha
        · rw [e]; exact gA_plain hp.1 e1
        · exact denA_plain hp.2 e2 a ha
      · rename_i hh
        exact absurd h (hh _ _)
    · cases h
    · cases h
theorem src_any {ρ : List (List Addr)} {H : Hp} {loc : Loc} {g : G} {σ : St} {a : Arg} {d : D} {ds : List D} {x : V} {fz : Bool} (hz : fz = false ∨ ∃ d', a = .v d') (S : SR R T ρ H loc g σ) (av : ArgAt R ρ H σ a x) (ev : a.val loc = some d) (e : d.items = some ds) :
    ∃ p vs, x = .ref p ∧ Reps R ρ H ds vs ∧ ∀ H2, (fz = false → Keep ρ H H2) → Ext H H2 → SqX R.K d.isTup H2 p vs := by
  rcases hz with hz | ⟨d', rfl⟩
  · obtain ⟨p, vs, h1, h2, h3⟩ := src_arg S av ev e
    exact ⟨p, vs, h1, h2, fun H2 k x => h3 H2 (k hz) x⟩
  · cases ev
    obtain ⟨p, vs, h1, h2, h3⟩ := src_rep e (show Rep R ρ H d x from av)
    exact ⟨p, vs, h1, h2, fun H2 _ x => h3 H2 x⟩
theorem args_cons_inv {ρ : List (List Addr)} {H : Hp} {σ : St} {a : Arg} {as : List Arg} {vs : List V} (h : ArgsAt R ρ H σ (a :: as) vs) : ∃ v r, vs = v :: r ∧ ArgAt R ρ H σ a v ∧ ArgsAt R ρ H σ as r := by
  cases h with | cons h t => exact ⟨_, _, rfl, h, t⟩
theorem SndI.enu {tg : List Expr} {kk : Nat} {tpos : Pos} {a : Expr} {es : List Expr} {t : E} {ts : List E} {p pos : Pos} {fz : Bool} (hz : fz = false ∨ allPlain (t :: ts) = true) (hg : globB cc "enumerate" = true) (hm : R.mg "enumerate" = none) (ha : SndA R T cc Γ (a :: es) (t :: ts))
    (hs : ∀ env, starEach (a :: es) env = (false, eval a env) :: starEach es env := by intro _; rfl) (hpl : ∀ env, (backTo pos (starEach es env)).any (·.1) = false := by intro _; rfl) : SndI R T cc Γ fz (.Tuple tg kk tpos) (.Call (.Name "enumerate" p) (a :: es) [] pos) (.enu (t :: ts)) := fun X W c tk => by
  obtain ⟨h1, _, _⟩ := globB_ok c hg
  refine PI.imp (pi_enu h1 (by rw [c.gx.mg]; exact hm) (ha X W c tk) (hs X.env) (hpl X.env)) fun σ H Rr h => ?_
  have h' := rdA_I (sem := enuA) (by obtain ⟨ρ, loc, g, S, q⟩ := h; unfold denI at q; exact ⟨ρ, loc, g, S, q⟩)
  obtain ⟨ρ, loc, g, S, q⟩ := h'
  refine ⟨ρ, loc, g, S, ?_⟩
  cases e : denA Γ (t :: ts) loc g with
  | bad => rw [e] at q; exact q
  | ex c fs g' => rw [e] at q; exact q
  | ok as g1 =>
    rw [e] at q
    intro ρ' vs H1 st av
    obtain ⟨ρ1, loc1, g2, as2, ds, l, ⟨l0, g0, e0⟩, S1, av2, ev, es2, k⟩ := q ρ' vs H1 st av
    have pl : ∀ a ∈ as2, fz = false ∨ ∃ d, a = .v d := fun a ha => hz.imp id fun hz => denA_plain hz e0 a ha
    unfold enuA at es2
    split at es2
    · rename_i d
      split at es2
      · rename_i its eit
        cases es2
        match as2, av2, ev, pl with
        | [a1], av2, ev, pl =>
          obtain ⟨d0, r0, w1, w2, e3⟩ := vals_cons ev
          cases e3
          obtain ⟨v, r, rfl, b1, b2⟩ := args_cons_inv av2
          cases b2
          obtain ⟨p, us, rfl, rr, keep⟩ := src_any (pl a1 (by simp)) S1 b1 w1 eit
          have now := keep H1 (fun _ => Keep.refl _ _) (Ext.refl _)
          exact ⟨p, d.isTup, us, 0, .inl ⟨rfl, rfl⟩, c.gx.K ▸ now, by decide, by decide, k _ _ (c.gx.K ▸ jl_enu (a := p) c.gx.K rr d.isTup 0) (c.gx.K ▸ now) fun H2 k2 x => c.gx.K ▸ keep H2 k2 x⟩
        | [], av2, ev, pl => cases ev
        | _ :: _ :: _, av2, ev, pl =>
          have := valsOf_len ev
          simp at this
      · cases es2
    · rename_i d k0
      split at es2
      · rename_i hs2
        split at es2
        · rename_i its eit
          cases es2
          match as2, av2, ev, pl with
          | [a1, a2], av2, ev, pl =>
            obtain ⟨d0, r0, w1, w2, e3⟩ := vals_cons ev
            cases e3
            obtain ⟨d0', r0', w3, w4, e4⟩ := vals_cons w2
            cases e4
            obtain ⟨v, r, rfl, b1, b2⟩ := args_cons_inv av2
            obtain ⟨v2, r2, rfl, b3, b4⟩ := args_cons_inv b2
            cases b4
            have := (arg_val S1 b3 w3).int
            subst this
            obtain ⟨p, us, rfl, rr, keep⟩ := src_any (pl a1 (by simp)) S1 b1 w1 eit
            have now := keep H1 (fun _ => Keep.refl _ _) (Ext.refl _)
            obtain ⟨q1, q2⟩ := small_of hs2
            exact ⟨p, d.isTup, us, k0, .inr rfl, c.gx.K ▸ now, by omega, by omega, k _ _ (c.gx.K ▸ jl_enu (a := p) c.gx.K rr d.isTup k0) (c.gx.K ▸ now) fun H2 k2 x => c.gx.K ▸ keep H2 k2 x⟩
          | [], av2, ev, pl => cases ev
          | [_], av2, ev, pl =>
            have := valsOf_len ev
            simp at this
          | _ :: _ :: _ :: _, av2, ev, pl =>
            have := valsOf_len ev
            simp at this
        · cases es2
      · cases es2
    · cases es2
theorem SndI.zip2 {tg : List Expr} {kk : Nat} {tpos : Pos} {a b : Expr} {t u : E} {p pos : Pos} {fz : Bool} (hz : fz = false ∨ allPlain [t, u] = true) (hg : globB cc "zip" = true) (hm : R.mg "zip" = none) (ha : SndA R T cc Γ [a, b] [t, u])
    (hs : ∀ env, starEach [a, b] env = (false, eval a env) :: starEach [b] env := by intro _; rfl) (hpl : ∀ env, (backTo pos (starEach [b] env)).any (·.1) = false := by intro _; rfl) : SndI R T cc Γ fz (.Tuple tg kk tpos) (.Call (.Name "zip" p) [a, b] [] pos) (.zip [t, u]) := fun X W c tk => by
  obtain ⟨h1, _, _⟩ := globB_ok c hg
  refine PI.imp (pi_zp h1 (by rw [c.gx.mg]; exact hm) (ha X W c tk) (hs X.env) (hpl X.env)) fun σ H Rr h => ?_
  have h' := rdA_I (sem := zipA) (by obtain ⟨ρ, loc, g, S, q⟩ := h; unfold denI at q; exact ⟨ρ, loc, g, S, q⟩)
  obtain ⟨ρ, loc, g, S, q⟩ := h'
  refine ⟨ρ, loc, g, S, ?_⟩
  cases e : denA Γ [t, u] loc g with
  | bad => rw [e] at q; exact q
  | ex c fs g' => rw [e] at q; exact q
  | ok as g1 =>
    rw [e] at q
    intro ρ' vs H1 st av
    obtain ⟨ρ1, loc1, g2, as2, ds, l, ⟨l0, g0, e0⟩, S1, av2, ev, es2, k⟩ := q ρ' vs H1 st av
    have pl : ∀ a ∈ as2, fz = false ∨ ∃ d, a = .v d := fun a ha => hz.imp id fun hz => denA_plain hz e0 a ha
    have hlen : as2.length = 2 := by rw [denA_len e0]; rfl
    match as2, hlen, av2, ev, pl with
    | [a1, a2], _, av2, ev, pl =>
      obtain ⟨d1, r0, w1, w2, rfl⟩ := vals_cons ev
      obtain ⟨d2, r0', w3, w4, rfl⟩ := vals_cons w2
      cases w4
      obtain ⟨v, r, rfl, b1, b2⟩ := args_cons_inv av2
      obtain ⟨v2, r2, rfl, b3, b4⟩ := args_cons_inv b2
      cases b4
      unfold zipA at es2
      simp only [itemsAll] at es2
      cases i1 : d1.items with
      | none => simp only [i1] at es2; cases es2
      | some l1 =>
        cases i2 : d2.items with
        | none => simp only [i1, i2] at es2; cases es2
        | some l2 =>
          simp only [i1, i2, zipD] at es2
          cases es2
          obtain ⟨p1, us1, rfl, rr1, keep1⟩ := src_any (pl a1 (by simp)) S1 b1 w1 i1
          obtain ⟨p2, us2, rfl, rr2, keep2⟩ := src_any (pl a2 (by simp)) S1 b3 w3 i2
          have now1 := keep1 H1 (fun _ => Keep.refl _ _) (Ext.refl _)
          have now2 := keep2 H1 (fun _ => Keep.refl _ _) (Ext.refl _)
          exact ⟨p1, p2, d1.isTup, d2.isTup, us1, us2, rfl, c.gx.K ▸ now1, c.gx.K ▸ now2, k _ _ (jl_zip (K := X.K) (a := p1) (b := p2) c.gx.K rr1 rr2 d1.isTup d2.isTup) ⟨by rw [c.gx.K]; exact now1, by rw [c.gx.K]; exact now2⟩ fun H2 k2 x => ⟨by rw [c.gx.K]; exact keep1 H2 k2 x, by rw [c.gx.K]; exact keep2 H2 k2 x⟩⟩
end
end PyD
end
section
set_option Elab.async false
set_option linter.all false
set_option maxRecDepth 100000
set_option maxHeartbeats 2000000
namespace PyD
open PySem PySem.Spec PyProof.Rows L2
section
variable {R : RC} {T : Tab} {ρ : List (List Addr)} {H : Hp} {loc : Loc} {g : G} {σ : St}
theorem SR.set {i : Nat} {d : D} {v : V} (S : SR R T ρ H loc g σ) (r : Rep R ρ H d v) : SR R T ρ H (loc.set i (some (false, d))) g (σ.set i (some v)) := by
  have other : ∀ {j : Nat} {x : Option (Bool × D)}, j ≠ i → (loc.set i (some (false, d)))[j]? = some x → loc[j]? = some x := fun {j x} hj h => by
    rw [List.getElem?_set_ne (Ne.symm hj)] at h; exact h
  have mine : ∀ {j : Nat} {e : D}, (loc.set i (some (false, d)))[j]? = some (some (true, e)) → j ≠ i := fun {j e} h z => by
    subst z
    by_cases hl : j < loc.length
    · rw [List.getElem?_set_self hl] at h; cases h
    · rw [List.getElem?_eq_none (by simpa using hl)] at h; cases h
  refine ⟨S.gr, fun j own e h => ?_, fun j k d1 d2 a h1 h2 e1 e2 => ?_, fun j d1 a h1 e1 => ?_, by simpa using S.len⟩
  · by_cases hj : j = i
    · subst hj
      by_cases hl : j < loc.length
      · rw [List.getElem?_set_self hl] at h; cases h
        exact ⟨v, List.getElem?_set_self (Nat.lt_of_lt_of_le hl S.len), r⟩
      · rw [List.getElem?_eq_none (by simpa using hl)] at h; cases h
    · obtain ⟨w, h1, h2⟩ := S.sl j own e (other hj h)
      exact ⟨w, by rw [List.getElem?_set_ne (Ne.symm hj)]; exact h1, h2⟩
  · have n1 := mine h1
    have n2 := mine h2
    rw [List.getElem?_set_ne (Ne.symm n1)] at e1
    rw [List.getElem?_set_ne (Ne.symm n2)] at e2
    exact S.apart j k d1 d2 a (other n1 h1) (other n2 h2) e1 e2
  · have n1 := mine h1
    rw [List.getElem?_set_ne (Ne.symm n1)] at e1
    exact S.off j d1 a (other n1 h1) e1
/-- a slot for an owned thing -/
theorem SR.setO {i : Nat} {d : D} {v : V} (S : SR R T ρ H loc g σ) (r : RepO R ρ H d v) (ho : ∀ a, v = .ref a → a ∉ ρ.flatten) (hn : ∀ a j e, v = .ref a → j ≠ i → loc[j]? = some (some (true, e)) → σ[j]? ≠ some (some (.ref a))) : SR R T ρ H (loc.set i (some (true, d))) g (σ.set i (some v)) := by
  have other : ∀ {j : Nat} {x : Option (Bool × D)}, j ≠ i → (loc.set i (some (true, d)))[j]? = some x → loc[j]? = some x := fun {j x} hj h => by
    rw [List.getElem?_set_ne (Ne.symm hj)] at h; exact h
  have hi' : ∀ {e : D}, (loc.set i (some (true, d)))[i]? = some (some (true, e)) → i < σ.length := fun {e} h => by
    by_cases hl : i < loc.length
    · exact Nat.lt_of_lt_of_le hl S.len
    · rw [List.getElem?_eq_none (by simpa using hl)] at h; cases h
  refine ⟨S.gr, fun j own e h => ?_, fun j k d1 d2 a h1 h2 e1 e2 => ?_, fun j d1 a h1 e1 => ?_, by simpa using S.len⟩
  · by_cases hj : j = i
    · subst hj
      by_cases hl : j < loc.length
      · rw [List.getElem?_set_self hl] at h; cases h
        exact ⟨v, List.getElem?_set_self (Nat.lt_of_lt_of_le hl S.len), r⟩
      · rw [List.getElem?_eq_none (by simpa using hl)] at h; cases h
    · obtain ⟨w, h1, h2⟩ := S.sl j own e (other hj h)
      exact ⟨w, by rw [List.getElem?_set_ne (Ne.symm hj)]; exact h1, h2⟩
  · by_cases n1 : j = i <;> by_cases n2 : k = i
    · rw [n1, n2]
    · subst n1
      rw [List.getElem?_set_self (hi' h1)] at e1; cases e1
      rw [List.getElem?_set_ne (Ne.symm n2)] at e2
      exact absurd e2 (hn a k d2 rfl n2 (other n2 h2))
    · subst n2
      rw [List.getElem?_set_self (hi' h2)] at e2; cases e2
      rw [List.getElem?_set_ne (Ne.symm n1)] at e1
      exact absurd e1 (hn a j d1 rfl n1 (other n1 h1))
    · rw [List.getElem?_set_ne (Ne.symm n1)] at e1
      rw [List.getElem?_set_ne (Ne.symm n2)] at e2
      exact S.apart j k d1 d2 a (other n1 h1) (other n2 h2) e1 e2
  · by_cases n1 : j = i
    · subst n1
      rw [List.getElem?_set_self (hi' h1)] at e1; cases e1
      exact ho a rfl
    · rw [List.getElem?_set_ne (Ne.symm n1)] at e1
      exact S.off j d1 a (other n1 h1) e1
/-- forgetting -/
theorem SR.weak {loc' : Loc} {σ' : St} (S : SR R T ρ H loc g σ) (hlen : loc'.length ≤ σ'.length) (hl : ∀ (i : Nat) x, loc'[i]? = some (some x) → loc[i]? = some (some x) ∧ σ'[i]? = σ[i]?) : SR R T ρ H loc' g σ' := by
  refine ⟨S.gr, fun j own e h => ?_, fun j k d1 d2 a h1 h2 e1 e2 => ?_, fun j d1 a h1 e1 => ?_, hlen⟩
  · obtain ⟨h1, h2⟩ := hl j _ h
    obtain ⟨w, q1, q2⟩ := S.sl j own e h1
    exact ⟨w, by rw [h2]; exact q1, q2⟩
  · obtain ⟨p1, p2⟩ := hl j _ h1
    obtain ⟨p3, p4⟩ := hl k _ h2
    exact S.apart j k d1 d2 a p1 p3 (by rw [← p2]; exact e1) (by rw [← p4]; exact e2)
  · obtain ⟨p1, p2⟩ := hl j _ h1
    exact S.off j d1 a p1 (by rw [← p2]; exact e1)
theorem wipeL_at : ∀ {vs : List Nat} {loc : Loc} {i : Nat} {x : Bool × D}, (wipeL loc vs)[i]? = some (some x) → loc[i]? = some (some x) ∧ i ∉ vs
  | [], loc, i, x, h => ⟨h, by simp⟩
  | v :: vs, loc, i, x, h => by
    unfold wipeL at h
    by_cases e : i = v
    · subst e
      by_cases hl : i < (wipeL loc vs).length
      · rw [List.getElem?_set_self hl] at h; cases h
      · rw [List.getElem?_eq_none (by simpa using hl)] at h; cases h
    · rw [List.getElem?_set_ne (Ne.symm e)] at h
      obtain ⟨h1, h2⟩ := wipeL_at h
      exact ⟨h1, by simp [e, h2]⟩
theorem wipe_at : ∀ {vs : List Nat} {σ : St} {i : Nat}, i ∉ vs → (wipe σ vs)[i]? = σ[i]?
  | [], _, _, _ => rfl
  | v :: vs, σ, i, h => by
    unfold wipe
    simp only [List.mem_cons, not_or] at h
    rw [List.getElem?_set_ne (Ne.symm h.1)]
    exact wipe_at h.2
theorem wipeL_len : ∀ (vs : List Nat) (loc : Loc), (wipeL loc vs).length = loc.length
  | [], _ => rfl
  | v :: vs, loc => by unfold wipeL; rw [List.length_set, wipeL_len vs loc]
theorem SR.wipe (S : SR R T ρ H loc g σ) (vs : List Nat) : SR R T ρ H (wipeL loc vs) g (L2.wipe σ vs) := S.weak (by rw [wipeL_len, wipe_length]; exact S.len) fun i x h => by
  obtain ⟨h1, h2⟩ := wipeL_at h
  exact ⟨h1, wipe_at h2⟩
end

mutual
def slotsT : T → List Nat
  | .s i => [i]
  | .t ts => slotsTs ts
def slotsTs : List T → List Nat
  | [] => []
  | t :: ts => slotsT t ++ slotsTs ts
end
/-- only the slots at is have changed -/
def SetAt (is : List Nat) (σ σ' : St) : Prop := σ'.length = σ.length ∧ ∀ i, i ∉ is → σ'[i]? = σ[i]?
theorem SetAt.wipe {is vs : List Nat} {σ σ' : St} (h : SetAt is σ σ') (hs : ∀ i ∈ is, i ∈ vs) : L2.wipe σ' vs = L2.wipe σ vs := by
  refine List.ext_getElem? fun i => ?_
  by_cases hi : i ∈ vs
  · have none_at : ∀ {vs : List Nat} {τ : St}, i ∈ vs → (L2.wipe τ vs)[i]? = if i < τ.length then some none else none := by
      intro vs τ hm
      induction vs with
      | nil => cases hm
      | cons v vs ih =>
        unfold L2.wipe
        by_cases e : i = v
        · subst e
          by_cases hl : i < τ.length
          · rw [List.getElem?_set_self (by rw [wipe_length]; exact hl), if_pos hl]
          · rw [List.getElem?_eq_none (by rw [List.length_set, wipe_length]; omega), if_neg hl]
        · rw [List.getElem?_set_ne (Ne.symm e)]
          exact ih (by simpa [e] using hm)
    rw [none_at hi, none_at hi, h.1]
  · rw [wipe_at hi, wipe_at hi]
    exact h.2 i fun z => hi (hs i z)
theorem wipe_wipe (σ : St) (vs : List Nat) : L2.wipe (L2.wipe σ vs) vs = L2.wipe σ vs := SetAt.wipe (is := vs) ⟨wipe_length σ vs, fun i hi => wipe_at hi⟩ fun i h => h
def rdB (R : RC) (T : Tab) (t : PyD.T) : TG := fun v σ H Q => ∃ ρ loc g d loc', SR R T ρ H loc g σ ∧ Rep R ρ H d v ∧ bindT t d loc = some loc' ∧ ∀ σ', SR R T ρ H loc' g σ' → SetAt (slotsT t) σ σ' → Q σ' H
def rdBs (R : RC) (T : Tab) (ts : List PyD.T) : TGs := fun vs σ H Q => ∃ ρ loc g ds loc', SR R T ρ H loc g σ ∧ Reps R ρ H ds vs ∧ bindTs ts ds loc = some loc' ∧ ∀ σ', SR R T ρ H loc' g σ' → SetAt (slotsTs ts) σ σ' → Q σ' H
section
variable {R : RC} {T : Tab} {cc : CC} {Γ : Env'}
def SndB (R : RC) (T : Tab) (cc : CC) (Γ : Env') (tg : Expr) (t : PyD.T) : Prop := ∀ X : Cx, CtxOk R T X cc Γ → PG X tg (rdB R T t)
def SndBs (R : RC) (T : Tab) (cc : CC) (Γ : Env') (tg : List Expr) (ts : List PyD.T) : Prop := ∀ X : Cx, CtxOk R T X cc Γ → PGs X tg (rdBs R T ts)
/-- a name that may be stored -/
def stB (cc : CC) (i : Nat) (x : Str) : Bool := decide (cc.N[i]? = some x) && (decide (cc.sc.names.lookup x = some .local) || (cc.top && decide (cc.sc.names.lookup x = some .cell)))
theorem stB_ok {X : Cx} {i : Nat} {x : Str} (c : CtxOk R T X cc Γ) (h : stB cc i x = true) : X.N[i]? = some x ∧ L2.Loc X.env.scope x ∧ (X.fn x = true ∨ X.env.scope.names.lookup x = some .local) := by
  simp only [stB, Bool.and_eq_true, Bool.or_eq_true, decide_eq_true_eq] at h
  refine ⟨by rw [c.N]; exact h.1, ?_, ?_⟩
  · rcases h.2 with h | h
    · exact .inl (by rw [c.sc]; exact h)
    · exact .inr (by rw [c.sc]; exact h.2)
  · rcases h.2 with h | h
    · exact .inr (by rw [c.sc]; exact h)
    · exact .inl (c.fn h.1 x)
theorem SndB.s {x : Str} {i : Nat} {pos : Pos} (h : stB cc i x = true) : SndB R T cc Γ (.Name x pos) (.s i) := fun X c => by
  obtain ⟨h1, h2, h3⟩ := stB_ok c h
  refine ⟨fun pins s σ H v u Q I rv ⟨ρ, loc, g, d, loc', S, r, e, q⟩ => ?_⟩
  simp only [bindT] at e; cases e
  refine (pg_name c.gx.nd h1 h2 h3).run pins s σ H v u Q I rv ?_
  exact q _ (S.set r) ⟨by simp, fun j hj => by
    have : j ≠ i := fun e => hj (by rw [e]; simp [slotsT])
    rw [List.getElem?_set_ne (Ne.symm this)]⟩
theorem PGs.imp {X : Cx} {e : List Expr} {t u : TGs} (h : PGs X e t) (q : ∀ vs σ H Q, u vs σ H Q → t vs σ H Q) : PGs X e u := ⟨fun pins s σ H vs us Q I r x => h.run pins s σ H vs us Q I r (q vs σ H Q x)⟩
theorem PG.imp {X : Cx} {e : Expr} {t u : TG} (h : PG X e t) (q : ∀ v σ H Q, u v σ H Q → t v σ H Q) : PG X e u := ⟨fun pins s σ H v us Q I r x => h.run pins s σ H v us Q I r (q v σ H Q x)⟩
theorem SndBs.nil : SndBs R T cc Γ [] [] := fun X c => PGs.imp pgs_nil fun vs σ H Q ⟨ρ, loc, g, ds, loc', S, r, e, q⟩ => by
  cases ds with
  | nil => cases r; simp only [bindTs] at e; cases e; exact ⟨rfl, q σ S ⟨rfl, fun _ _ => rfl⟩⟩
  | cons d ds => simp [bindTs] at e
theorem SndBs.cons {e : Expr} {es : List Expr} {t : PyD.T} {ts : List PyD.T} (h1 : SndB R T cc Γ e t) (h2 : SndBs R T cc Γ es ts) (hs : ∀ env, (assignEach (e :: es) env).map (·.2) = assign e env :: (assignEach es env).map (·.2) := by intro _; rfl) : SndBs R T cc Γ (e :: es) (t :: ts) := fun X c =>
  PGs.imp (pgs_cons (h1 X c) (h2 X c) (hs X.env)) fun vs σ H Q ⟨ρ, loc, g, ds, loc', S, r, e, q⟩ => by
    cases r with
    | nil => simp [bindTs] at e
    | @cons d v ds vs r1 rr =>
      simp only [bindTs] at e
      cases e1 : bindT t d loc with
      | none => rw [e1] at e; cases e
      | some l1 =>
        rw [e1] at e
        refine ⟨v, vs, rfl, ρ, loc, g, d, l1, S, r1, e1, fun σ1 S1 A1 => ?_⟩
        refine ⟨ρ, l1, g, ds, loc', S1, rr, e, fun σ2 S2 A2 => q σ2 S2 ⟨A2.1.trans A1.1, fun i hi => ?_⟩⟩
        simp only [slotsTs, List.mem_append, not_or] at hi
        rw [A2.2 i hi.2, A1.2 i hi.1]
theorem bindTs_len : ∀ {ts : List PyD.T} {ds : List D} {loc loc' : Loc}, bindTs ts ds loc = some loc' → ds.length = ts.length
  | [], [], _, _, _ => rfl
  | [], _ :: _, _, _, h => by simp [bindTs] at h
  | _ :: _, [], _, _, h => by simp [bindTs] at h
  | t :: ts, d :: ds, loc, loc', h => by
    simp only [bindTs] at h
    cases e1 : bindT t d loc with
    | none => rw [e1] at h; cases h
    | some l1 => rw [e1] at h; simp [bindTs_len h]
theorem SndB.t {es : List Expr} {k : Nat} {pos : Pos} {ts : List PyD.T} (h : SndBs R T cc Γ es ts) (hn : ∀ env, (assignEach es env).length = ts.length := by intro _; rfl) (hst : ∀ env, (assignEach es env).findIdx? (·.1) = none := by intro _; rfl) : SndB R T cc Γ (.Tuple es k pos) (.t ts) := fun X c =>
  PG.imp (pg_tup c.gx.calm (h X c) (hn X.env) (hst X.env)) fun v σ H Q ⟨ρ, loc, g, d, loc', S, r, e, q⟩ => by
    cases d <;> first | (simp only [bindT] at e; cases e; done) | skip
    rename_i ds
    simp only [bindT] at e
    cases r with
    | tup hq rr =>
      exact ⟨_, _, rfl, c.gx.K ▸ hq.seq, by rw [← rr.length, bindTs_len e], ρ, loc, g, ds, loc', S, rr, e, fun σ' S' A => q σ' S' A⟩

theorem noTakes {X : Cx} : Takes X (fun _ _ _ _ => False) := LamX.takes0
/-- a comprehension's block -/
def CC.blk (cc : CC) (scope : Scope) : CC := { cc with sc := relS scope cc.sc, top := false }
theorem CtxOk.blk {X : Cx} {scope : Scope} (c : CtxOk R T X cc Γ) (s : Shared) (H : Hp) (C : Addr) (cl : List (Str × Addr)) (fp : List Addr) : CtxOk R T (X.blk s H scope (compEnvC scope cl C X.env) fp) (cc.blk scope) Γ.nc := by
  refine ⟨⟨c.gx.prog, c.gx.w, c.gx.K, c.gx.mg, c.gx.base, c.gx.nd, c.gx.calm, c.gx.ga⟩, c.N, ?_, c.room, (fun z => by cases z), (fun z => by cases z), (fun z => by cases z), (fun z => absurd rfl z), fun _ _ _ _ _ _ _ _ _ _ _ => CloOk.no fun _ _ _ _ => rfl⟩
  show (compEnvC scope cl C X.env).scope = relS scope cc.sc
  rw [← c.sc]
  rfl
/-- the tests of a clause -/
def SndC (R : RC) (T : Tab) (cc : CC) (Γ : Env') (ifs : List Expr) (cond : List E) : Prop := ∀ X : Cx, CtxOk R T X cc Γ → PTs X ifs (rdT R T (fun _ _ _ _ => False) (denC Γ cond))
theorem PTs.imp {X : Cx} {e : List Expr} {t u : TT} (h : PTs X e t) (q : ∀ σ H Q, u σ H Q → t σ H Q) : PTs X e u := ⟨fun pins s σ H Q I x => h.run pins s σ H Q I (q σ H Q x)⟩
theorem SndC.nil : SndC R T cc Γ [] [] := fun X c => PTs.imp pts_nil fun σ H Q ⟨ρ, loc, g, S, q⟩ => by
  simp only [denC] at q
  obtain ⟨c', e, q'⟩ := ans_ok S.gr (.bl _) q
  cases e
  exact q'
theorem SndC.one {e : Expr} {t : E} (h : SndT R T cc Γ e t) : SndC R T cc Γ [e] [t] := fun X c => PTs.imp (pts_one (h X _ c noTakes)) fun σ H Q ⟨ρ, loc, g, S, q⟩ => by
  simp only [denC] at q
  exact ⟨ρ, loc, g, S, q⟩
theorem Stp.put {ρ ρ' : List (List Addr)} {H H' : Hp} {g : G} {p : Addr} {o u : HO} (st : Stp R T ρ ρ' H H' g) (hp : H p = none) (hp' : H' p = some u) (hu : stab u = false) (nt : ∀ ps, u ≠ .tbl ps) (hf : p ∉ ρ'.flatten) : Stp R T ρ ρ' H (upd H' p o) g :=
  ⟨st.n, ⟨fun b ob hb h2 h3 => by rw [upd_ne (ne_of_none hb hp)]; exact st.k.st b ob hb h2 h3, fun b ps hb => by rw [upd_ne (ne_of_none hb hp)]; exact st.k.tb b ps hb⟩, GR.put st.x hp' hu nt hf⟩
theorem Stp.own {ρ ρ' : List (List Addr)} {H H' : Hp} {g : G} {p : Addr} {xs : List V} (st : Stp R T ρ ρ' H H' g) (hp : H p = some (.lst xs)) (hf : p ∉ ρ.flatten) : H' p = some (.lst xs) ∧ p ∉ ρ'.flatten := by
  refine ⟨st.k.st p _ hp hf fun ps z => (by cases z), fun hm => ?_⟩
  rcases st.n.2 p hm with z | z
  · exact hf z
  · rw [hp] at z; cases z
theorem compD_noex {f test : D → G → Res} {c : Str} {fs : List (Str × D)} {g' : G} : ∀ (ds : List D) (g : G), compD f test ds g ≠ .ex c fs g'
  | [], g, z => by cases z
  | x :: r, g, z => by
    unfold compD at z
    cases e1 : test x g with
    | bad => rw [e1] at z; cases z
    | ex c2 fs2 g1 => rw [e1] at z; cases z
    | ok own t g1 =>
      rw [e1] at z
      dsimp only at z
      cases e2 : truth t with
      | none => rw [e2] at z; cases z
      | some b =>
        rw [e2] at z
        cases b with
        | false => exact compD_noex r g1 z
        | true =>
          dsimp only at z
          cases e3 : f x g1 with
          | bad => rw [e3] at z; cases z
          | ex c2 fs2 g2 => rw [e3] at z; cases z
          | ok own2 d g2 =>
            rw [e3] at z
            dsimp only at z
            cases e4 : compD f test r g2 with
            | bad => rw [e4] at z; cases z
            | ex c2 fs2 g3 => rw [e4] at z; cases z
            | ok ds g3 => rw [e4] at z; cases z
theorem compD_nil {f test : D → G → Res} {g : G} : compD f test [] g = .ok [] g := rfl
theorem comp_tlc {W : WX} {own : List (Str × Nat)} {e : E} {t : PyD.T} {it : PyD.It} {cond : List E} {σ : St} {H : Hp} {Q : VK} (hsl : (slotsT t).all (fun i => (own.map (·.2)).contains i) = true) (h : rdE R T W (den Γ (.comp e t it cond (own.map (·.2)))) σ H Q) :
    tLc (rdI R T W false (denI Γ it)) (rdB R T t) (rdT R T (fun _ _ _ _ => False) (denC Γ.nc cond)) (rdE R T (fun _ _ _ _ => False) (fun loc g => (den Γ.nc e loc g).frz)) (own.map (·.2)) σ H Q := by
  obtain ⟨ρ, loc, g, S, q⟩ := h
  have hin : ∀ i ∈ slotsT t, i ∈ own.map (·.2) := fun i h => by
    have := List.all_eq_true.mp hsl i h
    simpa using this
  unfold den at q
  refine ⟨ρ, loc, g, S, ?_⟩
  cases eI : denI Γ it loc g with
  | bad => rw [eI] at q; exact q.elim
  | ex c' fs g' => rw [eI] at q; exact q
  | ok ds g1 =>
    rw [eI] at q
    dsimp only at q ⊢
    intro ρ1 J H1 Src st jl s0 keep D hD
    have S1 := st.sr S
    generalize hF : (fun x g' => match bindT t x (wipeL loc (own.map (·.2))) with | some l => den Γ.nc e l g' | none => Res.bad) = F at q
    generalize hT : (fun x g' => match bindT t x (wipeL loc (own.map (·.2))) with | some l => denC Γ.nc cond l g' | none => Res.bad) = TS' at q
    cases hC : compD F TS' ds g1 with
    | bad => rw [hC] at q; exact q.elim
    | ex c' fs g' => exact absurd hC (compD_noex _ _)
    | ok rs g2 =>
      rw [hC] at q
      dsimp only at q
      by_cases hz : rs.length < sizeLine
      case neg => rw [if_neg (by simpa using hz)] at q; exact q.elim
      rw [if_pos (by simpa using hz)] at q
      refine ⟨fun i m H' => m = ds.length - i ∧ i ≤ ds.length ∧ ∃ ρ' acc accV g', H' D = some (.lst accV) ∧ D ∉ ρ'.flatten ∧ Stp R T ρ1 ρ' H1 H' g' ∧ Reps R ρ' H' acc accV ∧ ∃ rs', compD F TS' (ds.drop i) g' = .ok rs' g2 ∧ acc ++ rs' = rs, ⟨ds.length, rfl, Nat.zero_le _, ρ1, [], [], g1, upd_same, fun hm => ?_, Stp.new S1.gr hD, .nil, rs, by simpa using hC, rfl⟩, ?_⟩
      · obtain ⟨o, hz, _⟩ := S1.gr.unst hm
        rw [hD] at hz; cases hz
      rintro i m H' ⟨rfl, hle, ρ', acc, accV, g', hD', hfl, st', rr, rs', hcomp, hacc⟩
      have e' := st'.ext S1.gr
      obtain ⟨go, yld, stop⟩ := jl H' ρ' st'.n.1 e' (keep H' (fun _ => st'.k) e')
      by_cases hlt : i < ds.length
      case neg =>
        have hi' : i = ds.length := by omega
        subst hi'
        refine .inl ⟨stop, ?_⟩
        rw [List.drop_length] at hcomp
        cases hcomp
        rw [List.append_nil] at hacc
        subst hacc
        refine q ρ' (.ref D) H' (st.trans st') (RepO.lst hD' rr) fun _ a ea => ?_
        cases ea
        exact ⟨st.k.none hD fun z => hfl (st'.n.1.flat (st.n.1.flat z)), hfl⟩
      case pos =>
        refine .inr ⟨go i hlt, fun H'' => ∃ ρ' acc accV g', H'' D = some (.lst accV) ∧ D ∉ ρ'.flatten ∧ Stp R T ρ1 ρ' H1 H'' g' ∧ Reps R ρ' H'' acc accV ∧ ∃ rs', compD F TS' (ds.drop (i + 1)) g' = .ok rs' g2 ∧ acc ++ rs' = rs, fun H'' nx => ⟨ds.length - (i + 1), by omega, rfl, by omega, nx⟩, fun x H2 hy => ?_⟩
        obtain ⟨kAll, d, hd, rx⟩ := yld i x H2 hlt hy
        have hdrop : ds.drop i = d :: ds.drop (i + 1) := by
          rw [List.drop_eq_getElem_cons hlt]
          congr 1
          rw [List.getElem?_eq_getElem hlt] at hd
          exact Option.some.inj hd
        rw [hdrop] at hcomp
        have st2 : Stp R T ρ' ρ' H' H2 g' := Stp.all st'.x kAll
        have S2 : SR R T ρ' H2 loc g' σ := st2.sr (st'.sr S1)
        have hD2 : H2 D = some (.lst accV) := kAll D _ hD'
        unfold compD at hcomp
        have eT : TS' d g' = match bindT t d (wipeL loc (own.map (·.2))) with | some l => denC Γ.nc cond l g' | none => Res.bad := by rw [← hT]
        cases eb : bindT t d (wipeL loc (own.map (·.2))) with
        | none => rw [eb] at eT; rw [eT] at hcomp; cases hcomp
        | some l' =>
          rw [eb] at eT
          dsimp only at eT
          refine ⟨ρ', _, g', d, l', S2.wipe _, rx, eb, fun σ' S3 A => ⟨(A.wipe hin).trans (wipe_wipe _ _), ρ', l', g', S3, ?_⟩⟩
          cases ec : denC Γ.nc cond l' g' with
          | bad => rw [eT, ec] at hcomp; cases hcomp
          | ex c' fs g3 => rw [eT, ec] at hcomp; cases hcomp
          | ok ow tv g3 =>
            rw [eT, ec] at hcomp
            dsimp only at hcomp
            intro ρ3 v H3 st3 xv _
            cases et : truth tv with
            | none => rw [et] at hcomp; cases hcomp
            | some b =>
              cases truth_bl et
              rw [et] at hcomp
              obtain ⟨hD3, hf3⟩ := st3.own hD2 hfl
              have stA := (st'.trans st2).trans st3
              have rr3 : Reps R ρ3 H3 acc accV := Reps.ext st3.n.1 ((st2.ext st'.x).trans (st3.ext S2.gr)) rr
              refine ⟨b, xv.b.bl, ?_⟩
              cases b with
              | false =>
                simp only [Bool.false_eq_true, if_false]
                exact ⟨ρ3, acc, accV, g3, hD3, hf3, stA, rr3, rs', hcomp, hacc⟩
              | true =>
                simp only [if_true]
                dsimp only at hcomp
                have S4 := st3.sr S3
                refine ⟨ρ3, l', g3, S4, ?_⟩
                have eF : F d g3 = den Γ.nc e l' g3 := by rw [← hF]; simp only [eb]
                cases ee : den Γ.nc e l' g3 with
                | bad => rw [eF, ee] at hcomp; cases hcomp
                | ex c' fs g4 => rw [eF, ee] at hcomp; cases hcomp
                | ok ow2 d2 g4 =>
                  rw [eF, ee] at hcomp
                  dsimp only at hcomp
                  cases eR : compD F TS' (ds.drop (i + 1)) g4 with
                  | bad => rw [eR] at hcomp; cases hcomp
                  | ex c' fs g5 => rw [eR] at hcomp; cases hcomp
                  | ok rs2 g5 =>
                    rw [eR] at hcomp
                    cases hcomp
                    show Ans R T ρ3 H3 (den Γ.nc e l' g3).frz _ _
                    rw [ee]
                    intro ρ4 y H4 st4 ry _
                    obtain ⟨hD4, hf4⟩ := st4.own hD3 hf3
                    have rr4 : Reps R ρ4 H4 acc accV := Reps.ext st4.n.1 (st4.ext S4.gr) rr3
                    have hlen : accV.length < sizeLine := by
                      rw [← rr4.length]
                      have : acc.length ≤ rs.length := by rw [← hacc, List.length_append]; omega
                      omega
                    have e5 : Ext H4 (upd H4 D (.lst (accV ++ [y]))) := Ext.mut hD4 rfl
                    refine ⟨accV, hD4, hlen, ρ4, acc ++ [d2], accV ++ [y], g4, upd_same, hf4, (stA.trans st4).put hD hD4 rfl (fun ps z => by cases z) hf4, (Reps.ext (RExt.refl _) e5 rr4).append (.cons (Rep.ext (RExt.refl _) e5 ry) .nil), rs2, eR, ?_⟩
                    rw [← hacc, List.append_assoc]
                    rfl
theorem SndE.comp {elt tg iter : Expr} {ifs : List Expr} {scope : Scope} {own : List (Str × Nat)} {pos : Pos} {e : E} {t : PyD.T} {it : PyD.It} {cond : List E} {vs : List Nat} (hi : SndI R T cc Γ false tg iter it) (hb : SndB R T (cc.blk scope) Γ.nc tg t) (hc : SndC R T (cc.blk scope) Γ.nc ifs cond)
    (he : SndE R T (cc.blk scope) Γ.nc elt e) (ok : blkC cc.N cc.sc scope own = true) (hv : own.map (·.2) = vs) (hsl : (slotsT t).all (fun i => vs.contains i) = true) (hs : ∀ env x, foldedSetIterable iter env x = pure x := by intro _ _; rfl) :
    SndE R T cc Γ (.ListComp elt [⟨tg, iter, ifs, 0⟩] scope pos) (.comp e t it cond vs) := fun X W c tk => by
  subst hv
  have okB : BlkOk X.N X.env.scope scope own := by rw [c.N, c.sc]; exact blkOk_by ok
  exact PE.imp (pe_lc c.gx.calm c.gx.nd (hi X W c tk) okB (fun s H C cl fp => hb _ (c.blk s H C cl fp)) (fun s H C cl fp => hc _ (c.blk s H C cl fp)) (fun s H C cl fp => pe_frz (he _ (fun _ _ _ _ => False) (c.blk s H C cl fp) noTakes)) (hs X.env)) fun σ H Q h => comp_tlc hsl h
end
end PyD
end
section
set_option Elab.async false
set_option linter.all false
set_option maxRecDepth 100000
set_option maxHeartbeats 2000000
namespace PyD
open PySem PySem.Spec PyProof.Rows L2

/-- what is owned is younger than the def's entry -/
def Fresh (H0 : Hp) (loc : Loc) (σ : St) : Prop := ∀ (i : Nat) (d : D) (a : Addr), loc[i]? = some (some (true, d)) → σ[i]? = some (some (.ref a)) → H0 a = none
/-- a state behind a def's entry (ρ0, H0), behind (ρ, H) -/
structure SB (R : RC) (T : Tab) (ρ0 : List (List Addr)) (H0 : Hp) (ρ : List (List Addr)) (H : Hp) (loc' : Loc) (g' : G) (ρ' : List (List Addr)) (σ' : St) (H' : Hp) : Prop where
  sr : SR R T ρ' H' loc' g' σ'
  st : Stp R T ρ0 ρ' H0 H' g'
  fr : Fresh H0 loc' σ'
  e : Ext H H'
  x : RExt ρ ρ'
def AnsS (R : RC) (T : Tab) (ρ0 : List (List Addr)) (H0 : Hp) (ρ : List (List Addr)) (H : Hp) (W : WX) (r : ResS) (D : Ends) : Prop := match r with
  | .nx loc' g' => ∀ ρ' σ' H', SB R T ρ0 H0 ρ H loc' g' ρ' σ' H' → D.nx σ' H'
  | .bk loc' g' => ∀ ρ' σ' H', SB R T ρ0 H0 ρ H loc' g' ρ' σ' H' → D.bk σ' H'
  | .rt own d g' => ∀ ρ' v H', Stp R T ρ0 ρ' H0 H' g' → RepX R ρ' H' own d v → (own = true → ∀ a, v = .ref a → H0 a = none ∧ a ∉ ρ'.flatten) → D.rt v H'
  | .ex c fs g' => ∀ ρ' C dx σ' H', Stp R T ρ0 ρ' H0 H' g' → R.mg c = some (.ref C) → ExcAt R ρ' H' dx fs → W (.ref C) dx σ' H'
  | .bad => False
def rdS (R : RC) (T : Tab) (ρ0 : List (List Addr)) (H0 : Hp) (W : WX) (f : Loc → G → ResS) : TS := fun D σ H => ∃ ρ loc g, SR R T ρ H loc g σ ∧ Stp R T ρ0 ρ H0 H g ∧ Fresh H0 loc σ ∧ AnsS R T ρ0 H0 ρ H W (f loc g) D
/-- the wish about exceptions does not look at the slots -/
def NoSl (W : WX) : Prop := ∀ c d σ σ' H, W c d σ H → W c d σ' H
def SndS (R : RC) (T : Tab) (cc : CC) (Γ : Env') (s : Stmt) (t : S) : Prop := ∀ (X : Cx) (W : WX) (ρ0 : List (List Addr)) (H0 : Hp), CtxOk R T X cc Γ → cc.top = true → NoSl W → Takes X W → PassesOwn (model X.prog X.w) X.A X.env X.xe → PS X s (rdS R T ρ0 H0 W (exe Γ t))
def SndSs (R : RC) (T : Tab) (cc : CC) (Γ : Env') (s : List Stmt) (t : List S) : Prop := ∀ (X : Cx) (W : WX) (ρ0 : List (List Addr)) (H0 : Hp), CtxOk R T X cc Γ → cc.top = true → NoSl W → Takes X W → PassesOwn (model X.prog X.w) X.A X.env X.xe → PSs X s (rdS R T ρ0 H0 W (exes Γ t))
theorem PS.imp {X : Cx} {e : Stmt} {t u : TS} (h : PS X e t) (q : ∀ D σ H, u D σ H → t D σ H) : PS X e u := ⟨fun pins s σ H D I x => h.run pins s σ H D I (q D σ H x)⟩
theorem PSs.imp {X : Cx} {e : List Stmt} {t u : TS} (h : PSs X e t) (q : ∀ D σ H, u D σ H → t D σ H) : PSs X e u := ⟨fun pins s σ H D I x => h.run pins s σ H D I (q D σ H x)⟩
section
variable {R : RC} {T : Tab} {cc : CC} {Γ : Env'} {ρ0 ρ ρ1 : List (List Addr)} {H0 H H1 : Hp} {loc : Loc} {g g1 : G} {σ : St} {W : WX} {Z : Ends}
theorem AnsS.step {r : ResS} (e : Ext H H1) (x : RExt ρ ρ1) (h : AnsS R T ρ0 H0 ρ H W r Z) : AnsS R T ρ0 H0 ρ1 H1 W r Z := by
  cases r with
  | nx l g' => exact fun ρ' σ' H' b => h ρ' σ' H' ⟨b.sr, b.st, b.fr, e.trans b.e, x.trans b.x⟩
  | bk l g' => exact fun ρ' σ' H' b => h ρ' σ' H' ⟨b.sr, b.st, b.fr, e.trans b.e, x.trans b.x⟩
  | rt own d g' => exact h
  | ex c fs g' => exact h
  | bad => exact h
/-- an owned slot's object stands -/
theorem SR.live (S : SR R T ρ H loc g σ) {j : Nat} {e : D} {a : Addr} (h1 : loc[j]? = some (some (true, e))) (h2 : σ[j]? = some (some (V.ref a))) : H a ≠ none := fun z => by
  obtain ⟨v, e1, e2⟩ := S.sl j true e h1
  rw [h2] at e1; cases e1
  obtain ⟨a', o, e3, ho, _⟩ := RepO.at e2
  cases e3
  rw [z] at ho; cases ho
/-- an expression first -/
theorem st_bind {f : Loc → G → Res} {k : Loc → Bool → D → G → ResS} (h : rdS R T ρ0 H0 W (fun loc g => (f loc g).st (k loc)) Z σ H) (ns : NoSl W) :
    rdE R T W f σ H (fun v H1 => ∃ ρ1 loc own d g1, SR R T ρ1 H1 loc g1 σ ∧ Stp R T ρ0 ρ1 H0 H1 g1 ∧ Fresh H0 loc σ ∧ RepX R ρ1 H1 own d v ∧
      (own = true → ∀ a, v = .ref a → H0 a = none ∧ a ∉ ρ1.flatten ∧ ∀ (j : Nat) (e : D), loc[j]? = some (some (true, e)) → σ[j]? ≠ some (some (V.ref a))) ∧ AnsS R T ρ0 H0 ρ1 H1 W (k loc own d g1) Z) := by
  obtain ⟨ρ, loc, g, S, st, fr, q⟩ := h
  refine ⟨ρ, loc, g, S, ?_⟩
  dsimp only at q
  cases e : f loc g with
  | bad => rw [e] at q; exact q
  | ex c fs g' =>
    rw [e] at q
    intro ρ' C dx H' st' hm hx
    exact q ρ' C dx σ H' (st.trans st') hm hx
  | ok own d g' =>
    rw [e] at q
    intro ρ' v H' st' rv fv
    refine ⟨ρ', loc, own, d, g', st'.sr S, st.trans st', fr, rv, fun ho a ha => ?_, AnsS.step (st'.ext S.gr) st'.n.1 q⟩
    obtain ⟨f1, f2⟩ := fv ho a ha
    exact ⟨st.k.none f1 fun z => f2 (st'.n.1.flat (st.n.1.flat z)), f2, fun j e h1 h2 => S.live h1 h2 f1⟩
/-- .. its value frozen -/
theorem st_bindF {f : Loc → G → Res} {k : Loc → D → G → ResS} (h : rdS R T ρ0 H0 W (fun loc g => (f loc g).st fun _ d g1 => k loc d g1) Z σ H) (ns : NoSl W) :
    rdE R T W (fun loc g => (f loc g).frz) σ H (fun v H1 => ∃ ρ1 loc d g1, SR R T ρ1 H1 loc g1 σ ∧ Stp R T ρ0 ρ1 H0 H1 g1 ∧ Fresh H0 loc σ ∧ Rep R ρ1 H1 d v ∧ AnsS R T ρ0 H0 ρ1 H1 W (k loc d g1) Z) := by
  obtain ⟨ρ, loc, g, S, st, fr, q⟩ := h
  refine ⟨ρ, loc, g, S, ?_⟩
  dsimp only at q ⊢
  cases e : f loc g with
  | bad => rw [e] at q; exact q
  | ex c fs g' =>
    rw [e] at q
    intro ρ' C dx H' st' hm hx
    exact q ρ' C dx σ H' (st.trans st') hm hx
  | ok own d g' =>
    rw [e] at q
    intro ρ' v H' st' rv fv
    exact ⟨ρ', loc, d, g', st'.sr S, st.trans st', fr, rv, AnsS.step (st'.ext S.gr) st'.n.1 q⟩
theorem AnsS.nx_ok {loc' : Loc} (h : AnsS R T ρ0 H0 ρ H W (.nx loc' g) Z) {σ' : St} (S : SR R T ρ H loc' g σ') (st : Stp R T ρ0 ρ H0 H g) (fr : Fresh H0 loc' σ') : Z.nx σ' H := h ρ σ' H ⟨S, st, fr, Ext.refl H, RExt.refl ρ⟩
theorem Fresh.set {i : Nat} {d : PyD.D} {v : V} {σ' : St} {loc' : Loc} (fr : Fresh H0 loc σ) (hl : ∀ j e, loc'[j]? = some (some (true, e)) → j ≠ i ∧ loc[j]? = some (some (true, e))) (hs : ∀ j, j ≠ i → σ'[j]? = σ[j]?) : Fresh H0 loc' σ' := fun j e a h1 h2 => by
  obtain ⟨p, q⟩ := hl j e h1
  rw [hs j p] at h2
  exact fr j e a q h2
mutual
theorem bindT_own : ∀ {t : PyD.T} {d : PyD.D} {loc loc' : Loc}, bindT t d loc = some loc' → ∀ j e, loc'[j]? = some (some (true, e)) → j ∉ slotsT t ∧ loc[j]? = some (some (true, e))
  | .s i, d, loc, loc', h, j, e, hj => by
    simp only [bindT] at h; cases h
    by_cases z : j = i
    · subst z
      by_cases hl : j < loc.length
      · rw [List.getElem?_set_self hl] at hj; cases hj
      · rw [List.getElem?_eq_none (by simpa using hl)] at hj; cases hj
    · rw [List.getElem?_set_ne (Ne.symm z)] at hj
      exact ⟨by simpa [slotsT] using z, hj⟩
  | .t ts, d, loc, loc', h, j, e, hj => by
    cases d <;> simp only [bindT] at h <;> first | (cases h; done) | skip
    simpa only [slotsT] using bindTs_own h j e hj
theorem bindTs_own : ∀ {ts : List PyD.T} {ds : List PyD.D} {loc loc' : Loc}, bindTs ts ds loc = some loc' → ∀ j e, loc'[j]? = some (some (true, e)) → j ∉ slotsTs ts ∧ loc[j]? = some (some (true, e))
  | [], [], loc, loc', h, j, e, hj => by simp only [bindTs] at h; cases h; exact ⟨by simp [slotsTs], hj⟩
  | [], _ :: _, _, _, h, _, _, _ => by simp [bindTs] at h
  | _ :: _, [], _, _, h, _, _, _ => by simp [bindTs] at h
  | t :: ts, d :: ds, loc, loc', h, j, e, hj => by
    simp only [bindTs] at h
    cases e1 : bindT t d loc with
    | none => rw [e1] at h; cases h
    | some l1 =>
      rw [e1] at h
      obtain ⟨p1, p2⟩ := bindTs_own h j e hj
      obtain ⟨p3, p4⟩ := bindT_own e1 j e p2
      exact ⟨by simp only [slotsTs, List.mem_append, not_or]; exact ⟨p3, p1⟩, p4⟩
end
theorem Fresh.bind {t : PyD.T} {d : PyD.D} {loc' : Loc} {σ' : St} (fr : Fresh H0 loc σ) (h : bindT t d loc = some loc') (A : SetAt (slotsT t) σ σ') : Fresh H0 loc' σ' := fun j e a h1 h2 => by
  obtain ⟨p, q⟩ := bindT_own h j e h1
  rw [A.2 j p] at h2
  exact fr j e a q h2

theorem SndSs.nil : SndSs R T cc Γ [] [] := fun X W ρ0 H0 c tp ns tk hp => PSs.imp pss_nil fun D σ H ⟨ρ, loc, g, S, st, fr, q⟩ => by
  simp only [exes] at q
  exact q.nx_ok S st fr
theorem SndSs.cons {s : Stmt} {ss : List Stmt} {t : S} {ts : List S} (h : SndS R T cc Γ s t) (hr : SndSs R T cc Γ ss ts) : SndSs R T cc Γ (s :: ss) (t :: ts) := fun X W ρ0 H0 c tp ns tk hp => by
  refine PSs.imp (pss_cons (h X W ρ0 H0 c tp ns tk hp) (hr X W ρ0 H0 c tp ns tk hp)) fun D σ H ⟨ρ, loc, g, S, st, fr, q⟩ => ?_
  refine ⟨ρ, loc, g, S, st, fr, ?_⟩
  simp only [exes] at q
  cases e : exe Γ t loc g with
  | bad => rw [e] at q; exact q
  | ex c fs g' => rw [e] at q; exact q
  | rt own d g' => rw [e] at q; exact q
  | bk l g' => rw [e] at q; exact q
  | nx l g' =>
    rw [e] at q
    dsimp only at q
    exact fun ρ' σ' H' b => ⟨ρ', l, g', b.sr, b.st, b.fr, AnsS.step b.e b.x q⟩
/-- a thing of ours is for good from now on -/
theorem SndSs.frz {ss : List Stmt} {ts : List S} {i : Nat} (hr : SndSs R T cc Γ ss ts) : SndSs R T cc Γ ss (.frz i :: ts) := fun X W ρ0 H0 c tp ns tk hp => by
  refine ⟨fun pins s σ H D I ⟨ρ, loc, g, S, st, fr, q⟩ => ?_⟩
  obtain ⟨own, d, hl⟩ : ∃ own d, loc[i]? = some (some (own, d)) := by
    simp only [exes, exe] at q
    cases e : loc[i]? with
    | none => rw [e] at q; exact q.elim
    | some y =>
      cases y with
      | none => rw [e] at q; exact q.elim
      | some p => exact ⟨p.1, p.2, rfl⟩
  simp only [exes, exe, hl] at q
  have R' := hr X W ρ0 H0 c tp ns tk hp
  have other : ∀ {j : Nat} {e : PyD.D}, (loc.set i (some (false, d)))[j]? = some (some (true, e)) → j ≠ i ∧ loc[j]? = some (some (true, e)) := fun {j e} h => by
    by_cases z : j = i
    · subst z
      rw [List.getElem?_set_self (List.getElem?_eq_some_iff.mp hl).1] at h; cases h
    · rw [List.getElem?_set_ne (Ne.symm z)] at h
      exact ⟨z, h⟩
  cases own with
  | false =>
    have e : loc.set i (some (false, d)) = loc := by
      refine List.ext_getElem? fun j => ?_
      by_cases z : j = i
      · subst z
        rw [List.getElem?_set_self (List.getElem?_eq_some_iff.mp hl).1, hl]
      · rw [List.getElem?_set_ne (Ne.symm z)]
    rw [e] at q
    exact R'.run pins s σ H D I ⟨ρ, loc, g, S, st, fr, q⟩
  | true =>
    obtain ⟨v, e1, e2⟩ := S.sl i true d hl
    have key : ∀ (a : Addr) (u : HO), v = .ref a → H a = some u → Mut (some u) → stab u = false → (∀ ps, u ≠ .tbl ps) → (∀ o, Rep R ρ (upd H a (.frz o u)) d v) → wpAny (model X.prog X.w) X.A (execs ss X.env) (SP X pins D) X.xe s := fun a u ev hu mu su nt rp => by
      obtain ⟨o, J⟩ := Inv.frz I hu mu
      subst ev
      have hf : a ∉ ρ.flatten := S.off i d a hl e1
      have h0 : H0 a = none := fr i d a hl e1
      have ee : Ext H (upd H a (.frz o u)) := Ext.mut hu su
      have gr : GR R T ρ (upd H a (.frz o u)) g := GR.put S.gr hu su nt hf
      have S' : SR R T ρ (upd H a (.frz o u)) (loc.set i (some (false, d))) g σ := by
        refine ⟨gr, fun j own e h => ?_, fun j k d1 d2 b h1 h2 p1 p2 => ?_, fun j d1 b h1 p1 => ?_, by simpa using S.len⟩
        · by_cases z : j = i
          · subst z
            rw [List.getElem?_set_self (List.getElem?_eq_some_iff.mp hl).1] at h; cases h
            exact ⟨.ref a, e1, rp o⟩
          · rw [List.getElem?_set_ne (Ne.symm z)] at h
            obtain ⟨w, q1, q2⟩ := S.sl j own e h
            refine ⟨w, q1, ?_⟩
            cases own with
            | false => exact Rep.ext (RExt.refl _) ee q2
            | true =>
              obtain ⟨b, ob, rfl, hb, _, _⟩ := RepO.at q2
              have hba : b ≠ a := fun z2 => z (S.apart j i e d a h hl (z2 ▸ q1) e1)
              exact RepO.keep (RExt.refl _) ee (fun o' h' => by rw [upd_ne hba]; exact h') q2
        · exact S.apart j k d1 d2 b (other h1).2 (other h2).2 p1 p2
        · exact S.off j d1 b (other h1).2 p1
      refine R'.run pins s σ _ D J ⟨ρ, _, g, S', st.put h0 hu su nt hf, fun j e b h1 h2 => fr j e b (other h1).2 h2, AnsS.step ee (RExt.refl _) q⟩
    have e2' := e2.t
    cases e2' with
    | @lst a ds vs h1 r => exact key a _ rfl h1 trivial rfl (fun ps z => by cases z) fun o => .lst ⟨o, upd_same⟩ (Reps.ext (RExt.refl _) (Ext.mut h1 rfl) r)
    | @ins a C dx cn fs ks h1 m r => exact key a _ rfl h1 trivial rfl (fun ps z => by cases z) fun o => .ins upd_same m (RepF.ext (RExt.refl _) (Ext.mut h1 rfl) r)

theorem SndS.pass {pos : Pos} : SndS R T cc Γ (.Pass pos) .pass := fun X W ρ0 H0 c tp ns tk hp => PS.imp ps_pass fun D σ H ⟨ρ, loc, g, S, st, fr, q⟩ => by
  simp only [exe] at q
  exact q.nx_ok S st fr
theorem SndS.brk {pos : Pos} : SndS R T cc Γ (.Break pos) .brk := fun X W ρ0 H0 c tp ns tk hp => PS.imp ps_break fun D σ H ⟨ρ, loc, g, S, st, fr, q⟩ => by
  simp only [exe] at q
  exact q ρ σ H ⟨S, st, fr, Ext.refl H, RExt.refl ρ⟩
theorem SndS.ex {e : Expr} {t : E} {pos : Pos} (h : SndE R T cc Γ e t) (hs : ∀ env, swapsWith e none pos.line env = pure false := by intro _; rfl) : SndS R T cc Γ (.Expr e pos) (.ex t) := fun X W ρ0 H0 c tp ns tk hp => by
  refine PS.imp (ps_expr (pe_frz (h X W c tk)) (hs X.env)) fun D σ H h => ?_
  have h' := st_bindF (f := den Γ t) (k := fun loc _ g1 => .nx loc g1) (by obtain ⟨ρ, loc, g, S, st, fr, q⟩ := h; simp only [exe] at q; exact ⟨ρ, loc, g, S, st, fr, q⟩) ns
  exact rd_mono h' fun v H1 ⟨ρ1, loc1, d, g1, S1, st1, fr1, r1, a⟩ => a.nx_ok S1 st1 fr1
theorem SndS.asg {tg e : Expr} {t : PyD.T} {te : E} {pos : Pos} (hb : SndB R T cc Γ tg t) (he : SndE R T cc Γ e te) (hs : ∀ env, swapsWithSole [tg] e pos.line env = pure false := by intro _; rfl) (hw : ∀ env, swappedStores [tg] e env = pure none := by intro _; rfl)
    (h1 : ∀ env, (assignEach [tg] env).map (·.2) = [assign tg env] := by intro _; rfl) : SndS R T cc Γ (.Assign [tg] e pos) (.asg t te) := fun X W ρ0 H0 c tp ns tk hp => by
  refine PS.imp (ps_asg (pe_frz (he X W c tk)) (hb X c) (hs X.env) (hw X.env) (h1 X.env)) fun D σ H h => ?_
  have h' := st_bindF (f := den Γ te) (k := fun loc d g1 => match bindT t d loc with | some l => .nx l g1 | none => .bad) (by obtain ⟨ρ, loc, g, S, st, fr, q⟩ := h; simp only [exe] at q; exact ⟨ρ, loc, g, S, st, fr, q⟩) ns
  refine rd_mono h' fun v H1 ⟨ρ1, loc1, d, g1, S1, st1, fr1, r1, a⟩ => ?_
  cases eb : bindT t d loc1 with
  | none => rw [eb] at a; exact a.elim
  | some l =>
    rw [eb] at a
    exact ⟨ρ1, loc1, g1, d, l, S1, r1, eb, fun σ' S' A => a.nx_ok S' st1 (fr1.bind eb A)⟩
theorem SndS.ret {e : Expr} {t : E} {pos : Pos} (h : SndE R T cc Γ e t) : SndS R T cc Γ (.Return (some e) pos) (.ret t) := fun X W ρ0 H0 c tp ns tk hp => by
  refine PS.imp (ps_ret (h X W c tk)) fun D σ H h => ?_
  have h' := st_bind (f := den Γ t) (k := fun _ own d g1 => .rt own d g1) (by obtain ⟨ρ, loc, g, S, st, fr, q⟩ := h; simp only [exe] at q; exact ⟨ρ, loc, g, S, st, fr, q⟩) ns
  exact rd_mono h' fun v H1 ⟨ρ1, loc1, own, d, g1, S1, st1, fr1, r1, f1, a⟩ => a ρ1 v H1 st1 r1 fun ho x hx => ⟨(f1 ho x hx).1, (f1 ho x hx).2.1⟩
/-- a thing of ours handed over -/
theorem SndS.retO {x : Str} {i : Nat} {p pos : Pos} (hi : slotB cc i x = true) : SndS R T cc Γ (.Return (some (.Name x p)) pos) (.ret (.o i)) := fun X W ρ0 H0 c tp ns tk hp => by
  obtain ⟨h1, h2, h3, h4⟩ := slotB_ok c hi
  refine PS.imp (ps_ret (pe_var (i := i) h1 h2 h3 h4)) fun D σ H ⟨ρ, loc, g, S, st, fr, q⟩ => ?_
  simp only [exe, den] at q
  split at q
  · rename_i own d hl
    obtain ⟨v, e1, e2⟩ := S.sl i own d hl
    refine ⟨v, e1, q ρ v H st e2 fun ho a ha => ?_⟩
    subst ho ha
    exact ⟨fr i d a hl e1, S.off i d a hl e1⟩
  · exact q.elim
theorem SndS.retN {pos : Pos} : SndS R T cc Γ (.Return none pos) (.ret (.c .non)) := fun X W ρ0 H0 c tp ns tk hp => PS.imp ps_retN fun D σ H ⟨ρ, loc, g, S, st, fr, q⟩ => by
  simp only [exe, den] at q
  exact q ρ .non H st .non fun z => by cases z

theorem AnsS.own_ok {i : Nat} {own : Bool} {d : PyD.D} {v : V} (h : AnsS R T ρ0 H0 ρ H W (.nx (loc.set i (some (own, d))) g) Z) (S : SR R T ρ H loc g σ) (st : Stp R T ρ0 ρ H0 H g) (fr : Fresh H0 loc σ) (r : RepX R ρ H own d v)
    (f : own = true → ∀ a, v = .ref a → H0 a = none ∧ a ∉ ρ.flatten ∧ ∀ (j : Nat) (e : PyD.D), loc[j]? = some (some (true, e)) → σ[j]? ≠ some (some (V.ref a))) : Z.nx (σ.set i (some v)) H := by
  cases own with
  | false =>
    refine h.nx_ok (S.set r) st fun j e a h1 h2 => ?_
    by_cases z : j = i
    · subst z
      by_cases hl : j < loc.length
      · rw [List.getElem?_set_self hl] at h1; cases h1
      · rw [List.getElem?_eq_none (by simpa using hl)] at h1; cases h1
    · rw [List.getElem?_set_ne (Ne.symm z)] at h1 h2
      exact fr j e a h1 h2
  | true =>
    refine h.nx_ok (S.setO r (fun a e => (f rfl a e).2.1) fun a j e ev hj hl => (f rfl a ev).2.2 j e hl) st fun j e a h1 h2 => ?_
    by_cases z : j = i
    · subst z
      by_cases hl : j < loc.length
      · rw [List.getElem?_set_self (Nat.lt_of_lt_of_le hl S.len)] at h2
        cases h2
        exact (f rfl a rfl).1
      · rw [List.getElem?_eq_none (by simpa using hl)] at h1; cases h1
    · rw [List.getElem?_set_ne (Ne.symm z)] at h1 h2
      exact fr j e a h1 h2
theorem SndS.own {x : Str} {i : Nat} {e : Expr} {te : E} {p pos : Pos} (hx : stB cc i x = true) (he : SndE R T cc Γ e te) (hs : ∀ env, swapsWith e (some (.Name x p)) pos.line env = pure false := by intro _; rfl) : SndS R T cc Γ (.Assign [.Name x p] e pos) (.own i te) := fun X W ρ0 H0 c tp ns tk hp => by
  obtain ⟨h1, h2, h3⟩ := stB_ok c hx
  refine PS.imp (ps_set c.gx.nd h1 h2 (he X W c tk) (hs X.env) h3) fun D σ H h => ?_
  have h' := st_bind (f := den Γ te) (k := fun loc own d g1 => .nx (loc.set i (some (own, d))) g1) (by obtain ⟨ρ, loc, g, S, st, fr, q⟩ := h; simp only [exe] at q; exact ⟨ρ, loc, g, S, st, fr, q⟩) ns
  exact rd_mono h' fun v H1 ⟨ρ1, loc1, own, d, g1, S1, st1, fr1, r1, f1, a⟩ => a.own_ok S1 st1 fr1 r1 f1

theorem st_test {f : Loc → G → Res} {kt kf : Loc → G → ResS} (h : rdS R T ρ0 H0 W (fun loc g => (f loc g).st fun _ t g1 => match truth t with | some true => kt loc g1 | some false => kf loc g1 | none => .bad) Z σ H) :
    rdT R T W f σ H fun b H1 => if b = true then rdS R T ρ0 H0 W kt Z σ H1 else rdS R T ρ0 H0 W kf Z σ H1 := by
  obtain ⟨ρ, loc, g, S, st, fr, q⟩ := h
  refine ⟨ρ, loc, g, S, ?_⟩
  dsimp only at q
  cases e : f loc g with
  | bad => rw [e] at q; exact q
  | ex c fs g' =>
    rw [e] at q
    intro ρ' C dx H' st' hm hx
    exact q ρ' C dx σ H' (st.trans st') hm hx
  | ok own d g' =>
    rw [e] at q
    dsimp only [Res.st] at q
    intro ρ' v H' st' rv _
    cases et : truth d with
    | none => rw [et] at q; exact q.elim
    | some b =>
      rw [et] at q
      cases truth_bl et
      refine ⟨b, rv.b.bl, ?_⟩
      cases b with
      | true =>
        rw [if_pos rfl]
        exact ⟨ρ', loc, g', st'.sr S, st.trans st', fr, AnsS.step (st'.ext S.gr) st'.n.1 q⟩
      | false =>
        rw [if_neg Bool.false_ne_true]
        exact ⟨ρ', loc, g', st'.sr S, st.trans st', fr, AnsS.step (st'.ext S.gr) st'.n.1 q⟩
theorem SndS.ite {t : Expr} {a b : List Stmt} {et : E} {sa sb : List S} {pos : Pos} (ht : SndT R T cc Γ t et) (ha : SndSs R T cc Γ a sa) (hb : SndSs R T cc Γ b sb) : SndS R T cc Γ (.If t a b pos) (.ite et sa sb) := fun X W ρ0 H0 c tp ns tk hp => by
  refine PS.imp (ps_if (ht X W c tk) (ha X W ρ0 H0 c tp ns tk hp) (hb X W ρ0 H0 c tp ns tk hp)) fun D σ H h => ?_
  exact st_test (f := den Γ et) (by obtain ⟨ρ, loc, g, S, st, fr, q⟩ := h; simp only [exe] at q; exact ⟨ρ, loc, g, S, st, fr, q⟩)
theorem SndS.whl {t : Expr} {a : List Stmt} {et : E} {sa : List S} {pos : Pos} (ht : SndT R T cc Γ t et) (ha : SndSs R T cc Γ a sa) : SndS R T cc Γ (.While t a [] pos) (.whl et sa) := fun X W ρ0 H0 c tp ns tk hp => by
  refine PS.imp (ps_while hp (ht X W c tk) (ha X W ρ0 H0 c tp ns tk hp)) fun D σ H ⟨ρ, loc, g, S, st, fr, q⟩ => ?_
  simp only [exe] at q
  refine ⟨fun m σ H => rdS R T ρ0 H0 W (fun loc g => whlD (fun l g' => den Γ et l g') (fun l g' => exes Γ sa l g') m loc g) D σ H, ⟨Γ.fuel, ρ, loc, g, S, st, fr, q⟩, fun m σ H h => ?_⟩
  cases m with
  | zero =>
    obtain ⟨ρ, loc, g, S, st, fr, q⟩ := h
    exact q.elim
  | succ m =>
    have h2 := st_test (f := den Γ et) (kt := fun loc g1 => match exes Γ sa loc g1 with | .nx l' g' => whlD (fun l g' => den Γ et l g') (fun l g' => exes Γ sa l g') m l' g' | .bk l' g' => .nx l' g' | y => y) (kf := fun loc g1 => .nx loc g1) (by
      obtain ⟨ρ, loc, g, S, st, fr, q⟩ := h
      exact ⟨ρ, loc, g, S, st, fr, q⟩)
    refine rd_mono (Q' := fun v H' => ∃ c, v = .bl c ∧ (if c = true then _ else _)) h2 fun v H1 ⟨b, e, q⟩ => ⟨b, e, ?_⟩
    cases b with
    | false =>
      rw [if_neg Bool.false_ne_true] at q ⊢
      obtain ⟨ρ, loc, g, S, st, fr, q⟩ := q
      exact q.nx_ok S st fr
    | true =>
      rw [if_pos rfl] at q ⊢
      obtain ⟨ρ, loc, g, S, st, fr, q⟩ := q
      refine ⟨fun σ' H' => rdS R T ρ0 H0 W (fun loc g => whlD (fun l g' => den Γ et l g') (fun l g' => exes Γ sa l g') m loc g) D σ' H', fun σ' H' h => ⟨m, Nat.lt_succ_self m, h⟩, ρ, loc, g, S, st, fr, ?_⟩
      dsimp only at q
      cases e1 : exes Γ sa loc g with
      | bad => rw [e1] at q; exact q
      | ex c fs g' => rw [e1] at q; exact q
      | rt own d g' => rw [e1] at q; exact q
      | bk l g' => rw [e1] at q; exact q
      | nx l g' =>
        rw [e1] at q
        exact fun ρ' σ' H' b => ⟨ρ', l, g', b.sr, b.st, b.fr, AnsS.step b.e b.x q⟩
end
end PyD
end
section
set_option Elab.async false
set_option linter.all false
set_option maxRecDepth 100000
set_option maxHeartbeats 2000000
namespace PyD
open PySem PySem.Spec PyProof.Rows L2
section
variable {R : RC} {T : Tab} {cc : CC} {Γ : Env'} {ρ0 ρ ρ1 : List (List Addr)} {H0 H H1 : Hp} {loc : Loc} {g g1 : G} {σ : St} {W : WX} {Z : Ends}
theorem SndS.loop {tg iter : Expr} {body : List Stmt} {t : PyD.T} {it : PyD.It} {sa : List S} {pos : Pos} (hi : SndI R T cc Γ true tg iter it) (hb : SndB R T cc Γ tg t) (ha : SndSs R T cc Γ body sa) (hs : ∀ env x, foldedSetIterable iter env x = pure x := by intro _ _; rfl) :
    SndS R T cc Γ (.For tg iter body [] pos) (.loop t it sa) := fun X W ρ0 H0 c tp ns tk hp => by
  refine PS.imp (ps_for hp c.gx.calm (hi X W c tk) (hb X c) (ha X W ρ0 H0 c tp ns tk hp) (hs X.env)) fun D σ H ⟨ρ, loc, g, S, st, fr, q⟩ => ?_
  simp only [exe] at q
  refine ⟨ρ, loc, g, S, ?_⟩
  cases eI : denI Γ it loc g with
  | bad => rw [eI] at q; exact q.elim
  | ex c' fs g' =>
    rw [eI] at q
    intro ρ' C dx H' st' hm hx
    exact q ρ' C dx σ H' (st.trans st') hm hx
  | ok ds g1 =>
    rw [eI] at q
    dsimp only [ResL.st] at q ⊢
    intro ρ1 J H1 Src st1 jl s0 keep
    have S1 := st1.sr S
    refine ⟨fun i m σ' H' => m = ds.length - i ∧ i ≤ ds.length ∧ ∃ ρ' l g', SR R T ρ' H' l g' σ' ∧ Stp R T ρ0 ρ' H0 H' g' ∧ Fresh H0 l σ' ∧ Ext H1 H' ∧ RExt ρ1 ρ' ∧ AnsS R T ρ0 H0 ρ' H' W (loopD (bindT t) (fun l g' => exes Γ sa l g') (ds.drop i) l g') D,
      ⟨ds.length, rfl, Nat.zero_le _, ρ1, loc, g1, S1, st.trans st1, fr, Ext.refl _, RExt.refl _, AnsS.step (st1.ext S.gr) st1.n.1 q⟩, ?_⟩
    rintro i m σ2 H2 ⟨rfl, hle, ρ2, l2, g2, S2, st2, fr2, e2, x2, q2⟩
    obtain ⟨go, yld, stop⟩ := jl H2 ρ2 x2 e2 (keep H2 (fun z => by cases z) e2)
    by_cases hlt : i < ds.length
    case neg =>
      have hi' : i = ds.length := by omega
      subst hi'
      rw [List.drop_length] at q2
      exact .inl ⟨stop, q2.nx_ok S2 st2 fr2⟩
    case pos =>
      refine .inr ⟨go i hlt, fun σ' H' => ∃ ρ' l g', SR R T ρ' H' l g' σ' ∧ Stp R T ρ0 ρ' H0 H' g' ∧ Fresh H0 l σ' ∧ Ext H1 H' ∧ RExt ρ1 ρ' ∧ AnsS R T ρ0 H0 ρ' H' W (loopD (bindT t) (fun l g' => exes Γ sa l g') (ds.drop (i + 1)) l g') D, fun σ' H' nx => ⟨ds.length - (i + 1), by omega, rfl, by omega, nx⟩, fun x H3 hy => ?_⟩
      obtain ⟨kAll, d, hd, rx⟩ := yld i x H3 hlt hy
      have hdrop : ds.drop i = d :: ds.drop (i + 1) := by
        rw [List.drop_eq_getElem_cons hlt]
        congr 1
        rw [List.getElem?_eq_getElem hlt] at hd
        exact Option.some.inj hd
      rw [hdrop] at q2
      have st3 : Stp R T ρ2 ρ2 H2 H3 g2 := Stp.all S2.gr kAll
      have S3 := st3.sr S2
      unfold loopD at q2
      cases eb : bindT t d l2 with
      | none => rw [eb] at q2; exact q2.elim
      | some l3 =>
        rw [eb] at q2
        dsimp only at q2
        refine ⟨ρ2, l2, g2, d, l3, S3, rx, eb, fun σ4 S4 A => ?_⟩
        have e3 : Ext H2 H3 := st3.ext S2.gr
        refine ⟨ρ2, l3, g2, S4, st2.trans st3, fr2.bind eb A, ?_⟩
        have q3 := AnsS.step (ρ1 := ρ2) e3 (RExt.refl _) q2
        cases ee : exes Γ sa l3 g2 with
        | bad => rw [ee] at q3; exact q3.elim
        | ex c' fs g' => rw [ee] at q3; exact q3
        | rt own d' g' => rw [ee] at q3; exact q3
        | bk l' g' =>
          rw [ee] at q3
          dsimp only at q3
          exact fun ρ' σ' H' b => q3 ρ' σ' H' b
        | nx l' g' =>
          rw [ee] at q3
          dsimp only at q3
          exact fun ρ' σ' H' b => ⟨ρ', l', g', b.sr, b.st, b.fr, (e2.trans e3).trans b.e, x2.trans b.x, AnsS.step b.e b.x q3⟩

theorem ownL_at {i : Nat} {ds : List PyD.D} (h : ownL loc i = some ds) : loc[i]? = some (some (true, .lst ds)) := by
  unfold ownL at h
  split at h
  · rename_i ds' e; cases h; exact e
  · cases h
theorem SR.ownA {i : Nat} {ds : List PyD.D} (S : SR R T ρ H loc g σ) (h : loc[i]? = some (some (true, .lst ds))) : ∃ a vs, σ[i]? = some (some (V.ref a)) ∧ H a = some (.lst vs) ∧ Reps R ρ H ds vs ∧ a ∉ ρ.flatten := by
  obtain ⟨v, e1, e2⟩ := S.sl i true _ h
  have e2' := e2.t
  cases e2' with
  | @lst a ds' vs h1 r => exact ⟨a, vs, e1, h1, r, S.off i _ a h e1⟩
/-- the list in slot i is written -/
theorem SR.writeL {i : Nat} {ds ds' : List PyD.D} {a : Addr} {vs vs' : List V} (S : SR R T ρ H loc g σ) (h : loc[i]? = some (some (true, .lst ds))) (hs : σ[i]? = some (some (V.ref a))) (ha : H a = some (.lst vs)) (r : Reps R ρ H ds' vs') :
    SR R T ρ (upd H a (.lst vs')) (setL loc i ds') g σ ∧ Ext H (upd H a (.lst vs')) := by
  have hf := S.off i _ a h hs
  have ee : Ext H (upd H a (.lst vs')) := Ext.mut ha rfl
  have hi : i < loc.length := (List.getElem?_eq_some_iff.mp h).1
  have other : ∀ {j : Nat} {x : Option (Bool × PyD.D)}, j ≠ i → (setL loc i ds')[j]? = some x → loc[j]? = some x := fun {j x} hj q => by
    unfold setL at q
    rw [List.getElem?_set_ne (Ne.symm hj)] at q; exact q
  have was : ∀ {j : Nat} {e : PyD.D}, (setL loc i ds')[j]? = some (some (true, e)) → ∃ e', loc[j]? = some (some (true, e')) := fun {j e} q => by
    by_cases z : j = i
    · rw [z]; exact ⟨_, h⟩
    · exact ⟨e, other z q⟩
  refine ⟨⟨GR.put S.gr ha rfl (fun ps z => by cases z) hf, fun j own e q => ?_, fun j k d1 d2 b h1 h2 p1 p2 => ?_, fun j d1 b h1 p1 => ?_, by unfold setL; simpa using S.len⟩, ee⟩
  · by_cases z : j = i
    · subst z
      unfold setL at q
      rw [List.getElem?_set_self hi] at q; cases q
      exact ⟨.ref a, hs, RepO.lst upd_same (Reps.ext (RExt.refl _) ee r)⟩
    · obtain ⟨w, q1, q2⟩ := S.sl j own e (other z q)
      refine ⟨w, q1, ?_⟩
      cases own with
      | false => exact Rep.ext (RExt.refl _) ee q2
      | true =>
        obtain ⟨b, ob, rfl, hb, _, _⟩ := RepO.at q2
        have hba : b ≠ a := fun z2 => z (S.apart j i e _ a (other z q) h (z2 ▸ q1) hs)
        exact RepO.keep (RExt.refl _) ee (fun o' h' => by rw [upd_ne hba]; exact h') q2
  · obtain ⟨e1, w1⟩ := was h1
    obtain ⟨e2, w2⟩ := was h2
    exact S.apart j k e1 e2 b w1 w2 p1 p2
  · obtain ⟨e1, w1⟩ := was h1
    exact S.off j e1 b w1 p1
theorem Fresh.setL {i : Nat} {ds ds' : List PyD.D} (fr : Fresh H0 loc σ) (h : loc[i]? = some (some (true, .lst ds))) : Fresh H0 (PyD.setL loc i ds') σ := fun j e a h1 h2 => by
  by_cases z : j = i
  · subst z; exact fr j _ a h h2
  · unfold PyD.setL at h1
    rw [List.getElem?_set_ne (Ne.symm z)] at h1
    exact fr j e a h1 h2
/-- behind a write of slot i's list -/
theorem AnsS.wr {i : Nat} {ds ds' : List PyD.D} {a : Addr} {vs vs' : List V} (q : AnsS R T ρ0 H0 ρ H W (.nx (setL loc i ds') g) Z) (S : SR R T ρ H loc g σ) (st : Stp R T ρ0 ρ H0 H g) (fr : Fresh H0 loc σ)
    (h : loc[i]? = some (some (true, .lst ds))) (hs : σ[i]? = some (some (V.ref a))) (ha : H a = some (.lst vs)) (r : Reps R ρ H ds' vs') : Z.nx σ (upd H a (.lst vs')) := by
  obtain ⟨S', ee⟩ := S.writeL h hs ha r
  exact q ρ σ _ ⟨S', st.put (fr i _ a h hs) ha rfl (fun ps z => by cases z) (S.off i _ a h hs), fr.setL h, ee, RExt.refl _⟩
theorem SndS.put {x : Str} {i : Nat} {ix e : Expr} {tx te : E} {p ps pos : Pos} (hx : slotB cc i x = true) (hi : SndE R T cc Γ ix tx) (he : SndE R T cc Γ e te)
    (ha : ∀ env v, assign (.Subscript (.Name x p) ix ps) env v = (do
      let ov ← holding [v] (eval (.Name x p) env)
      let iv ← holding [v, ov] (eval ix env)
      standAt ps
      holding [v, ov, iv] (setItem ov iv v)
      release [v, ov, iv] []) := by intro _ _; rfl)
    (hs : ∀ env, swapsWithSole [.Subscript (.Name x p) ix ps] e pos.line env = pure false := by intro _; rfl) (hw : ∀ env, swappedStores [.Subscript (.Name x p) ix ps] e env = pure none := by intro _; rfl)
    (h1 : ∀ env, (assignEach [.Subscript (.Name x p) ix ps] env).map (·.2) = [assign (.Subscript (.Name x p) ix ps) env] := by intro _; rfl) :
    SndS R T cc Γ (.Assign [.Subscript (.Name x p) ix ps] e pos) (.put i tx te) := fun X W ρ0 H0 c tp ns tk hp => by
  obtain ⟨n1, n2, n3, n4⟩ := slotB_ok c hx
  refine PS.imp (ps_asg (pe_frz (he X W c tk)) (pg_sub (pe_var n1 n2 n3 n4) (pe_frz (hi X W c tk)) set_list (ha X.env)) (hs X.env) (hw X.env) (h1 X.env)) fun D σ H ⟨ρ, loc, g, S, st, fr, q⟩ => ?_
  simp only [exe] at q
  cases ho : ownL loc i with
  | none => rw [ho] at q; exact q.elim
  | some l =>
    rw [ho] at q
    dsimp only at q
    have hl := ownL_at ho
    refine ⟨ρ, loc, g, S, ?_⟩
    dsimp only
    cases e1 : den Γ te loc g with
    | bad => rw [e1] at q; exact q
    | ex c' fs g' =>
      rw [e1] at q
      exact fun ρ' C dx H' st' hm hx => q ρ' C dx σ H' (st.trans st') hm hx
    | ok own d g1 =>
      rw [e1] at q
      dsimp only [Res.st, Res.frz] at q ⊢
      intro ρ1 v H1 st1 rv _
      have S1 := st1.sr S
      obtain ⟨a, vs, s1, s2, s3, s4⟩ := S1.ownA hl
      refine ⟨.ref a, s1, ρ1, loc, g1, S1, ?_⟩
      dsimp only
      cases e2 : den Γ tx loc g1 with
      | bad => rw [e2] at q; exact q
      | ex c' fs g' =>
        rw [e2] at q
        exact fun ρ' C dx H' st' hm hx => q ρ' C dx σ H' ((st.trans st1).trans st') hm hx
      | ok own2 x g2 =>
        rw [e2] at q
        dsimp only [Res.st, Res.frz] at q ⊢
        intro ρ2 w H2 st2 rw' _
        have S2 := st2.sr S1
        cases x <;> first | exact q.elim | skip
        rename_i k
        dsimp only at q
        cases e3 : ixOf l.length k with
        | none => rw [e3] at q; exact q.elim
        | some n =>
          rw [e3] at q
          obtain ⟨a', vs', p1, p2, p3, p4⟩ := S2.ownA hl
          rw [s1] at p1; cases p1
          have ew : w = .int k := rw'.b.int
          subst ew
          refine ⟨a, vs', k, n, rfl, rfl, p2, by rw [← p3.length]; exact e3, ?_⟩
          have q' : AnsS R T ρ0 H0 ρ2 H2 W (.nx (setL loc i (l.set n d)) g2) D := AnsS.step ((st1.ext S.gr).trans (st2.ext S1.gr)) (st1.n.1.trans st2.n.1) q
          exact q'.wr S2 ((st.trans st1).trans st2) fr hl s1 p2 (p3.set (Rep.ext st2.n.1 (st2.ext S1.gr) rv) n)
/-- x.append(e) -/
theorem SndS.app {x : Str} {i : Nat} {e : Expr} {te : E} {p ap cp pos : Pos} (hx : slotB cc i x = true) (he : SndE R T cc Γ e te) (hbase : ∀ env, attributeBase (.Name x p) "append" env (eval (.Name x p) env) = eval (.Name x p) env := by intro _; rfl)
    (hline : (ap.endLine == cp.line) = true := by rfl) (hs : ∀ env, starEach [e] env = (false, eval e env) :: starEach [] env := by intro _; rfl) (hsw : ∀ env, swapsWith (.Call (.Attribute (.Name x p) "append" ap) [e] [] cp) none pos.line env = pure false := by intro _; rfl) :
    SndS R T cc Γ (.Expr (.Call (.Attribute (.Name x p) "append" ap) [e] [] cp) pos) (.app i te) := fun X W ρ0 H0 c tp ns tk hp => by
  obtain ⟨n1, n2, n3, n4⟩ := slotB_ok c hx
  have hfew : ((backTo cp (starEach [e] X.env)).all (fun x => !x.1) && (backToKw cp (keywordEach [] X.env)).all (fun x => x.1.isSome) && decide ([e].length + ([] : List Keyword).length + (if ([] : List Keyword).isEmpty then 0 else 1) < 30)) = true := by
    rw [hs]; rfl
  refine PS.imp (ps_expr (pe_bm F.plainAttrs_list F.slot_list_append F.type_list_append mt_append (pe_var n1 n2 n3 n4) (pa_cons (pe_frz (he X W c tk)) pa_nil (hs X.env)) (hbase X.env) hfew hline (hs X.env) rfl) (hsw X.env)) fun D σ H ⟨ρ, loc, g, S, st, fr, q⟩ => ?_
  simp only [exe] at q
  cases ho : ownL loc i with
  | none => rw [ho] at q; exact q.elim
  | some l =>
    rw [ho] at q
    dsimp only at q
    have hl := ownL_at ho
    obtain ⟨a, vs, s1, s2, s3, s4⟩ := S.ownA hl
    refine ⟨.ref a, s1, .inl ⟨rfl, vs, .inl (.inl s2)⟩, ρ, loc, g, S, ?_⟩
    dsimp only
    cases e1 : den Γ te loc g with
    | bad => rw [e1] at q; exact q
    | ex c' fs g' =>
      rw [e1] at q
      exact fun ρ' C dx H' st' hm hx => q ρ' C dx σ H' (st.trans st') hm hx
    | ok own d g1 =>
      rw [e1] at q
      dsimp only [Res.st, Res.frz] at q ⊢
      intro ρ1 v H1 st1 rv _
      have S1 := st1.sr S
      obtain ⟨a', vs', p1, p2, p3, p4⟩ := S1.ownA hl
      rw [s1] at p1; cases p1
      by_cases hz : l.length < sizeLine
      case neg => rw [if_neg (by simpa using hz)] at q; exact q.elim
      rw [if_pos (by simpa using hz)] at q
      refine ⟨a, vs', v, rfl, rfl, p2, by rw [← p3.length]; exact hz, ?_⟩
      have q' : AnsS R T ρ0 H0 ρ1 H1 W (.nx (setL loc i (l ++ [d])) g1) D := AnsS.step (st1.ext S.gr) st1.n.1 q
      exact q'.wr S1 (st.trans st1) fr hl s1 p2 (p3.append (.cons rv .nil))
end
end PyD
end
section
set_option Elab.async false
set_option linter.all false
set_option maxRecDepth 100000
set_option maxHeartbeats 2000000
namespace PyD
open PySem PySem.Spec PyProof.Rows L2
/-- values that are about to be stored -/
structure ValsO (R : RC) (ρ : List (List Addr)) (H H0 : Hp) (loc : Loc) (σ : St) (ds : List (Bool × D)) (vs : List V) : Prop where
  rep : ∀ (k : Nat) own d, ds[k]? = some (own, d) → ∃ v, vs[k]? = some v ∧ RepX R ρ H own d v
  len : ds.length = vs.length
  new : ∀ (k : Nat) d a, ds[k]? = some (true, d) → vs[k]? = some (V.ref a) → H0 a = none ∧ a ∉ ρ.flatten ∧ ∀ (j : Nat) (e : D), loc[j]? = some (some (true, e)) → σ[j]? ≠ some (some (V.ref a))
  dis : ∀ (k l : Nat) d e a, ds[k]? = some (true, d) → ds[l]? = some (true, e) → vs[k]? = some (V.ref a) → vs[l]? = some (V.ref a) → k = l
section
variable {R : RC} {T : Tab} {cc : CC} {Γ : Env'} {ρ0 ρ ρ1 : List (List Addr)} {H0 H H1 : Hp} {loc : Loc} {g g1 : G} {σ : St} {W : WX} {Z : Ends}
theorem own_set {i : Nat} {own : Bool} {d : PyD.D} {v : V} (S : SR R T ρ H loc g σ) (fr : Fresh H0 loc σ) (r : RepX R ρ H own d v)
    (f : own = true → ∀ a, v = .ref a → H0 a = none ∧ a ∉ ρ.flatten ∧ ∀ (j : Nat) (e : PyD.D), loc[j]? = some (some (true, e)) → σ[j]? ≠ some (some (V.ref a))) : SR R T ρ H (loc.set i (some (own, d))) g (σ.set i (some v)) ∧ Fresh H0 (loc.set i (some (own, d))) (σ.set i (some v)) := by
  cases own with
  | false =>
    refine ⟨S.set r, fun j e a h1 h2 => ?_⟩
    by_cases z : j = i
    · subst z
      by_cases hl : j < loc.length
      · rw [List.getElem?_set_self hl] at h1; cases h1
      · rw [List.getElem?_eq_none (by simpa using hl)] at h1; cases h1
    · rw [List.getElem?_set_ne (Ne.symm z)] at h1 h2
      exact fr j e a h1 h2
  | true =>
    refine ⟨S.setO r (fun a e => (f rfl a e).2.1) fun a j e ev hj hl => (f rfl a ev).2.2 j e hl, fun j e a h1 h2 => ?_⟩
    by_cases z : j = i
    · subst z
      by_cases hl : j < loc.length
      · rw [List.getElem?_set_self (Nat.lt_of_lt_of_le hl S.len)] at h2
        cases h2
        exact (f rfl a rfl).1
      · rw [List.getElem?_eq_none (by simpa using hl)] at h1; cases h1
    · rw [List.getElem?_set_ne (Ne.symm z)] at h1 h2
      exact fr j e a h1 h2
theorem ValsO.tail {p : Bool × PyD.D} {ds : List (Bool × PyD.D)} {v : V} {vs : List V} {i : Nat} (h : ValsO R ρ H H0 loc σ (p :: ds) (v :: vs)) (hl : loc.length ≤ σ.length) : ValsO R ρ H H0 (loc.set i (some p)) (σ.set i (some v)) ds vs := by
  refine ⟨fun k own d e => by simpa using h.rep (k + 1) own d (by simpa using e), by simpa using h.len, fun k d a e1 e2 => ?_, fun k l d e a e1 e2 e3 e4 => by simpa using h.dis (k + 1) (l + 1) d e a (by simpa using e1) (by simpa using e2) (by simpa using e3) (by simpa using e4)⟩
  obtain ⟨h1, h2, h3⟩ := h.new (k + 1) d a (by simpa using e1) (by simpa using e2)
  refine ⟨h1, h2, fun j e q1 q2 => ?_⟩
  by_cases z : j = i
  · subst z
    by_cases hj : j < loc.length
    · rw [List.getElem?_set_self hj] at q1
      rw [List.getElem?_set_self (Nat.lt_of_lt_of_le hj hl)] at q2
      cases q2
      obtain ⟨ow, dd⟩ := p
      cases q1
      have := h.dis 0 (k + 1) _ d a rfl (by simpa using e1) rfl (by simpa using e2)
      omega
    · rw [List.getElem?_eq_none (by simpa using hj)] at q1; cases q1
  · rw [List.getElem?_set_ne (Ne.symm z)] at q1 q2
    exact h3 j e q1 q2
/-- names as targets -/
def nameT : TG' → Option Nat
  | .o i => some i
  | .t (.s i) => some i
  | _ => none
def namesT : List TG' → Option (List Nat)
  | [] => some []
  | t :: ts => match nameT t, namesT ts with | some i, some is => some (i :: is) | _, _ => none
def setsV : List Nat → List V → St → St
  | i :: is, v :: vs, σ => setsV is vs (σ.set i (some v))
  | _, _, σ => σ
theorem store_names : ∀ {ts : List TG'} {ds : List (Bool × PyD.D)} {vs : List V} {is : List Nat} {loc : Loc} {σ : St}, namesT ts = some is → AnsS R T ρ0 H0 ρ H W (storeG Γ ts ds loc g) Z → SR R T ρ H loc g σ → Stp R T ρ0 ρ H0 H g → Fresh H0 loc σ → ValsO R ρ H H0 loc σ ds vs → Z.nx (setsV is vs σ) H
  | [], ds, vs, is, loc, σ, hn, q, S, st, fr, VV => by
    simp only [namesT] at hn; cases hn
    cases ds with
    | nil => simp only [storeG] at q; exact q.nx_ok S st fr
    | cons p ds => simp only [storeG] at q; exact q.elim
  | t :: ts, ds, vs, is, loc, σ, hn, q, S, st, fr, VV => by
    simp only [namesT] at hn
    cases e1 : nameT t with
    | none => rw [e1] at hn; cases hn
    | some i =>
      cases e2 : namesT ts with
      | none => rw [e1, e2] at hn; cases hn
      | some is' =>
        rw [e1, e2] at hn; cases hn
        cases ds with
        | nil =>
          cases t with
          | o j => simp only [storeG] at q; exact q.elim
          | t u => simp only [storeG] at q; exact q.elim
          | p j ix => simp [nameT] at e1
        | cons p ds =>
          obtain ⟨own, d⟩ := p
          cases vs with
          | nil => have := VV.len; simp at this
          | cons v vs =>
            obtain ⟨v', hv, rv⟩ := VV.rep 0 own d rfl
            cases hv
            have f : own = true → ∀ a, v = .ref a → H0 a = none ∧ a ∉ ρ.flatten ∧ ∀ (j : Nat) (e : PyD.D), loc[j]? = some (some (true, e)) → σ[j]? ≠ some (some (V.ref a)) := fun ho a ha => by
              subst ho ha
              exact VV.new 0 d a rfl rfl
            obtain ⟨S', fr'⟩ := own_set (i := i) S fr rv f
            have V' := VV.tail (i := i) S.len
            have q' : AnsS R T ρ0 H0 ρ H W (storeG Γ ts ds (loc.set i (some (own, d))) g) Z := by
              cases t with
              | o j =>
                simp only [nameT] at e1; cases e1
                simp only [storeG] at q
                exact q
              | t u =>
                cases u with
                | s j =>
                  simp only [nameT] at e1; cases e1
                  cases own with
                  | true => simp only [storeG] at q; exact q.elim
                  | false => simp only [storeG, bindT] at q; exact q
                | t us => simp [nameT] at e1
              | p j ix => simp [nameT] at e1
            exact store_names (is := is') (σ := σ.set i (some v)) e2 q' S' st fr' V'

def rdO (R : RC) (T : Tab) (ρ0 : List (List Addr)) (H0 : Hp) (W : WX) (f : Loc → G → ResO) : TA := fun σ H Q => ∃ ρ loc g, SR R T ρ H loc g σ ∧ Stp R T ρ0 ρ H0 H g ∧ Fresh H0 loc σ ∧ match f loc g with
  | .ok ds g' => ∀ ρ' vs H', Stp R T ρ ρ' H H' g' → ValsO R ρ' H' H0 loc σ ds vs → (∀ (k : Nat) (a : Addr) (d : D), ds[k]? = some (true, d) → vs[k]? = some (V.ref a) → H a = none) → Q vs H'
  | .ex c fs g' => ∀ ρ' C dx H', Stp R T ρ0 ρ' H0 H' g' → R.mg c = some (.ref C) → ExcAt R ρ' H' dx fs → W (.ref C) dx σ H'
  | .bad => False
def SndO (R : RC) (T : Tab) (cc : CC) (Γ : Env') (es : List Expr) (ts : List TG') (us : List E) : Prop := ∀ (X : Cx) (W : WX) (ρ0 : List (List Addr)) (H0 : Hp), CtxOk R T X cc Γ → Takes X W → PA X es (rdO R T ρ0 H0 W (denO Γ ts us))
theorem pe_keep {X : Cx} {W : WX} {e : Expr} {f : Loc → G → Res} (k : Bool) (h : PE X e (rdE R T W f)) : PE X e (rdE R T W (fun loc g => (f loc g).keep k)) := by
  cases k with
  | true => exact h
  | false => exact pe_frz h
theorem SndO.nil : SndO R T cc Γ [] [] [] := fun X W ρ0 H0 c tk => PA.imp pa_nil fun σ H Q ⟨ρ, loc, g, S, st, fr, q⟩ => by
  simp only [denO] at q
  exact q ρ [] H (Stp.refl S.gr) ⟨fun k _ _ e => by simp at e, rfl, fun k _ _ e => by simp at e, fun k _ _ _ _ e => by simp at e⟩ fun k _ _ e => by simp at e
theorem SndO.cons {e : Expr} {es : List Expr} {t : TG'} {ts : List TG'} {u : E} {us : List E} (h : SndE R T cc Γ e u) (hr : SndO R T cc Γ es ts us) (hs : ∀ env, starEach (e :: es) env = (false, eval e env) :: starEach es env := by intro _; rfl) : SndO R T cc Γ (e :: es) (t :: ts) (u :: us) := fun X W ρ0 H0 c tk => by
  refine PA.imp (pa_cons (pe_keep (isO t) (h X W c tk)) (hr X W ρ0 H0 c tk) (hs X.env)) fun σ H Q ⟨ρ, loc, g, S, st, fr, q⟩ => ?_
  simp only [denO] at q
  refine ⟨ρ, loc, g, S, ?_⟩
  dsimp only
  cases e1 : (den Γ u loc g).keep (isO t) with
  | bad => rw [e1] at q; exact q
  | ex c' fs g' =>
    rw [e1] at q
    exact fun ρ' C dx H' st' hm hx => q ρ' C dx H' (st.trans st') hm hx
  | ok own d g1 =>
    rw [e1] at q
    dsimp only at q
    intro ρ1 v H1 st1 rv fv
    have S1 := st1.sr S
    refine ⟨ρ1, loc, g1, S1, st.trans st1, fr, ?_⟩
    cases e2 : denO Γ ts us loc g1 with
    | bad => rw [e2] at q; exact q
    | ex c' fs g' => rw [e2] at q; exact q
    | ok ds g2 =>
      rw [e2] at q
      intro ρ2 vs H2 st2 VV nw
      have e12 := st2.ext S1.gr
      -- the first value stands behind the others
      have first : own = true → ∃ a o, v = .ref a ∧ H a = none ∧ a ∉ ρ1.flatten ∧ H1 a = some o ∧ H2 a = some o := fun ho => by
        subst ho
        obtain ⟨a, o, rfl, ha, _, nt⟩ := RepO.at rv.t
        obtain ⟨f1, f2⟩ := fv rfl a rfl
        exact ⟨a, o, rfl, f1, f2, ha, st2.k.st a o ha f2 nt⟩
      have rv2 : RepX R ρ2 H2 own d v := by
        cases own with
        | false => exact Rep.ext st2.n.1 e12 rv
        | true =>
          obtain ⟨a, o, rfl, f1, f2, ha, ha2⟩ := first rfl
          exact RepO.keep st2.n.1 e12 (fun o' h' => by rw [ha] at h'; cases h'; exact ha2) rv.t
      refine q ρ2 (v :: vs) H2 (st1.trans st2) ⟨fun k ow dd e => ?_, by simp [VV.len], fun k dd a e3 e4 => ?_, fun k l dd ee a e3 e4 e5 e6 => ?_⟩ fun k a dd e3 e4 => ?_
      · cases k with
        | zero => cases e; exact ⟨v, rfl, rv2⟩
        | succ k => exact VV.rep k ow dd (by simpa using e)
      · cases k with
        | zero =>
          cases e3; cases e4
          obtain ⟨a', o, e5, f1, f2, ha, ha2⟩ := first rfl
          cases e5
          refine ⟨st.k.none f1 fun z => f2 (st1.n.1.flat (st.n.1.flat z)), fun z => ?_, fun j e h1 h2 => S.live h1 h2 f1⟩
          rcases st2.n.2 a z with z | z
          · exact f2 z
          · rw [ha] at z; cases z
        | succ k => exact VV.new k dd a (by simpa using e3) (by simpa using e4)
      · have apart0 : ∀ (k : Nat) (d2 : PyD.D), own = true → v = .ref a → ds[k]? = some (true, d2) → vs[k]? = some (V.ref a) → False := fun k d2 ho hv h1 h2 => by
          obtain ⟨a', o, e7, f1, f2, ha, ha2⟩ := first ho
          rw [hv] at e7; cases e7
          have := nw k a d2 h1 h2
          rw [ha] at this; cases this
        cases k with
        | zero =>
          cases l with
          | zero => rfl
          | succ l =>
            cases e3; cases e5
            exact (apart0 l _ rfl rfl (by simpa using e4) (by simpa using e6)).elim
        | succ k =>
          cases l with
          | zero =>
            cases e4; cases e6
            exact (apart0 k _ rfl rfl (by simpa using e3) (by simpa using e5)).elim
          | succ l =>
            have := VV.dis k l dd ee a (by simpa using e3) (by simpa using e4) (by simpa using e5) (by simpa using e6)
            omega
      · cases k with
        | zero =>
          cases e3; cases e4
          exact (fv rfl a rfl).1
        | succ k => exact st1.k.none (nw k a dd (by simpa using e3) (by simpa using e4)) fun z => (VV.new k dd a (by simpa using e3) (by simpa using e4)).2.1 (st2.n.1.flat (st1.n.1.flat z))
/-- a, b = x, y (local names) -/
theorem store_of {ts : List TG'} {us : List E} {is : List Nat} (hn : namesT ts = some is) (h : rdS R T ρ0 H0 W (exe Γ (.asgs ts us)) Z σ H) : rdO R T ρ0 H0 W (denO Γ ts us) σ H fun vs H1 => vs.length = ts.length ∧ ∀ H2, (∀ b o, H1 b = some o → H2 b = some o) → Z.nx (setsV is vs σ) H2 := by
  obtain ⟨ρ, loc, g, S, st, fr, q⟩ := h
  simp only [exe] at q
  refine ⟨ρ, loc, g, S, st, fr, ?_⟩
  cases e : denO Γ ts us loc g with
  | bad => rw [e] at q; exact q
  | ex c fs g' => rw [e] at q; exact fun ρ' C dx H' a b d => q ρ' C dx σ H' a b d
  | ok ds g1 =>
    rw [e] at q
    intro ρ1 vs H1 st1 VV nw
    have hlen : ∀ {ts : List TG'} {us : List E} {loc : Loc} {g g1 : G} {ds : List (Bool × PyD.D)}, denO Γ ts us loc g = .ok ds g1 → ds.length = ts.length := by
      intro ts
      induction ts with
      | nil =>
        intro us loc g g1 ds h
        cases us with
        | nil => simp only [denO] at h; cases h; rfl
        | cons _ _ => simp only [denO] at h; cases h
      | cons t ts ih =>
        intro us loc g g1 ds h
        cases us with
        | nil => simp only [denO] at h; cases h
        | cons u us =>
          simp only [denO] at h
          split at h
          · split at h
            · rename_i e2; cases h; simp [ih e2]
            · rename_i hh; exact absurd h (hh _ _)
          · cases h
          · cases h
    refine ⟨by rw [← VV.len, hlen e], fun H2 k => ?_⟩
    have st2 : Stp R T ρ1 ρ1 H1 H2 g1 := Stp.all st1.x k
    have ee := st2.ext st1.x
    have V2 : ValsO R ρ1 H2 H0 loc σ ds vs := ⟨fun i own d h => by
      obtain ⟨v, h1, h2⟩ := VV.rep i own d h
      refine ⟨v, h1, ?_⟩
      cases own with
      | false => exact Rep.ext (RExt.refl _) ee h2
      | true =>
        obtain ⟨a, o, rfl, ha, _⟩ := RepO.at h2.t
        exact RepO.keep (RExt.refl _) ee (fun o' h' => k _ _ h') h2.t, VV.len, VV.new, VV.dis⟩
    exact store_names hn (AnsS.step ((st1.ext S.gr).trans ee) st1.n.1 q) (st2.sr (st1.sr S)) ((st.trans st1).trans st2) fr V2
theorem vs2 {vs : List V} (h : vs.length = 2) : ∃ v w, vs = [v, w] := by
  match vs, h with
  | [v, w], _ => exact ⟨v, w, rfl⟩
theorem vs3 {vs : List V} (h : vs.length = 3) : ∃ u v w, vs = [u, v, w] := by
  match vs, h with
  | [u, v, w], _ => exact ⟨u, v, w, rfl⟩
theorem rdO_mono {f : Loc → G → ResO} {Q Q' : List V → Hp → Prop} (h : rdO R T ρ0 H0 W f σ H Q) (q : ∀ vs H', Q vs H' → Q' vs H') : rdO R T ρ0 H0 W f σ H Q' := by
  obtain ⟨ρ, loc, g, S, st, fr, a⟩ := h
  refine ⟨ρ, loc, g, S, st, fr, ?_⟩
  cases e : f loc g with
  | bad => rw [e] at a; exact a
  | ex c fs g' => rw [e] at a; exact a
  | ok ds g1 => rw [e] at a; exact fun ρ' vs H' h1 h2 h3 => q vs H' (a ρ' vs H' h1 h2 h3)
def locB (cc : CC) (i : Nat) (x : Str) : Bool := decide (cc.N[i]? = some x) && decide (cc.sc.names.lookup x = some .local)
theorem locB_ok {X : Cx} {i : Nat} {x : Str} (c : CtxOk R T X cc Γ) (h : locB cc i x = true) : X.N[i]? = some x ∧ X.env.scope.names.lookup x = some .local := by
  simp only [locB, Bool.and_eq_true, decide_eq_true_eq] at h
  exact ⟨by rw [c.N]; exact h.1, by rw [c.sc]; exact h.2⟩
theorem SndS.par2 {x y : Str} {i j : Nat} {a b : Expr} {ts : List TG'} {us : List E} {px py pt pos : Pos} {kt k2 pt2} (hx : locB cc i x = true) (hy : locB cc j y = true) (hij : i ≠ j) (hn : namesT ts = some [i, j]) (hl : ts.length = 2) (ha : SndO R T cc Γ [a, b] ts us)
    (hw : ∀ env : Env, env.scope = cc.sc → swappedStores [.Tuple [.Name x px, .Name y py] kt pt] (.Tuple [a, b] k2 pt2) env = pure (some [x, y]))
    (hs : ∀ env, swapsWithSole [.Tuple [.Name x px, .Name y py] kt pt] (.Tuple [a, b] k2 pt2) pos.line env = pure false := by intro _; rfl) :
    SndS R T cc Γ (.Assign [.Tuple [.Name x px, .Name y py] kt pt] (.Tuple [a, b] k2 pt2) pos) (.asgs ts us) := fun X W ρ0 H0 c tp ns tk hp => by
  obtain ⟨n1, l1⟩ := locB_ok c hx
  obtain ⟨n2, l2⟩ := locB_ok c hy
  refine PS.imp (ps_par c.gx.calm c.gx.nd n1 n2 hij l1 l2 (ha X W ρ0 H0 c tk) (hw X.env c.sc) (hs X.env)) fun D σ H h => ?_
  refine rdO_mono (store_of hn h) fun vs H1 ⟨e, q⟩ => ?_
  obtain ⟨v, w, rfl⟩ := vs2 (e.trans hl)
  exact ⟨v, w, rfl, q H1 fun _ _ h => h⟩
theorem SndS.par3 {x y z : Str} {i j l : Nat} {a b d : Expr} {ts : List TG'} {us : List E} {px py pz pt pos : Pos} {kt k2 pt2} (hx : locB cc i x = true) (hy : locB cc j y = true) (hz : locB cc l z = true) (hij : i ≠ j) (hil : i ≠ l) (hjl : j ≠ l) (hn : namesT ts = some [i, j, l]) (hl : ts.length = 3) (ha : SndO R T cc Γ [a, b, d] ts us)
    (hw : ∀ env : Env, env.scope = cc.sc → swappedStores [.Tuple [.Name x px, .Name y py, .Name z pz] kt pt] (.Tuple [a, b, d] k2 pt2) env = pure (some [x, y, z]))
    (hs : ∀ env, swapsWithSole [.Tuple [.Name x px, .Name y py, .Name z pz] kt pt] (.Tuple [a, b, d] k2 pt2) pos.line env = pure false := by intro _; rfl) :
    SndS R T cc Γ (.Assign [.Tuple [.Name x px, .Name y py, .Name z pz] kt pt] (.Tuple [a, b, d] k2 pt2) pos) (.asgs ts us) := fun X W ρ0 H0 c tp ns tk hp => by
  obtain ⟨n1, l1⟩ := locB_ok c hx
  obtain ⟨n2, l2⟩ := locB_ok c hy
  obtain ⟨n3, l3⟩ := locB_ok c hz
  refine PS.imp (ps_par3 c.gx.calm c.gx.nd n1 n2 n3 hij hil hjl l1 l2 l3 (ha X W ρ0 H0 c tk) (hw X.env c.sc) (hs X.env)) fun D σ H h => ?_
  refine rdO_mono (store_of hn h) fun vs H1 ⟨e, q⟩ => ?_
  obtain ⟨u, v, w, rfl⟩ := vs3 (e.trans hl)
  exact ⟨u, v, w, rfl, q H1 fun _ _ h => h⟩
/-- names, some of them cells: through a tuple -/
theorem gNames {X : Cx} {tg : List Expr} {is : List Nat} (h : PGs X tg (fun vs σ H Q => vs.length = is.length ∧ Q (setsV is vs σ) H)) {kt pt} (hc : X.calm = true) (hn : (assignEach tg X.env).length = is.length) (hst : (assignEach tg X.env).findIdx? (·.1) = none) :
    PG X (.Tuple tg kt pt) (gTup X.K is.length (fun vs σ H Q => vs.length = is.length ∧ Q (setsV is vs σ) H)) := pg_tup hc h hn hst
def SndNs (R : RC) (T : Tab) (cc : CC) (Γ : Env') (tg : List Expr) (is : List Nat) : Prop := ∀ X : Cx, CtxOk R T X cc Γ → PGs X tg (fun vs σ H Q => vs.length = is.length ∧ Q (setsV is vs σ) H)
theorem SndNs.nil : SndNs R T cc Γ [] [] := fun X c => PGs.imp pgs_nil fun vs σ H Q ⟨e, q⟩ => by
  cases vs with
  | nil => exact ⟨rfl, q⟩
  | cons v vs => cases e
theorem SndNs.cons {x : Str} {i : Nat} {p : Pos} {tg : List Expr} {is : List Nat} (h : stB cc i x = true) (hr : SndNs R T cc Γ tg is) : SndNs R T cc Γ (.Name x p :: tg) (i :: is) := fun X c => by
  obtain ⟨h1, h2, h3⟩ := stB_ok c h
  refine PGs.imp (pgs_cons (pg_name c.gx.nd h1 h2 h3) (hr X c) (by rfl)) fun vs σ H Q ⟨e, q⟩ => ?_
  cases vs with
  | nil => cases e
  | cons v vs => exact ⟨v, vs, rfl, by simpa using e, q⟩
theorem SndS.parN {tg es : List Expr} {is : List Nat} {ts : List TG'} {us : List E} {pt pos : Pos} {kt k2 pt2} (hg : SndNs R T cc Γ tg is) (hn : namesT ts = some is) (hl : ts.length = is.length) (hz : is.length ≤ 1000) (ha : SndO R T cc Γ es ts us)
    (hw : ∀ env : Env, env.scope = cc.sc → swappedStores [.Tuple tg kt pt] (.Tuple es k2 pt2) env = pure none)
    (hnn : ∀ env, (assignEach tg env).length = is.length := by intro _; rfl) (hst : ∀ env, (assignEach tg env).findIdx? (·.1) = none := by intro _; rfl)
    (hs : ∀ env, swapsWithSole [.Tuple tg kt pt] (.Tuple es k2 pt2) pos.line env = pure false := by intro _; rfl)
    (h1 : ∀ env, (assignEach [.Tuple tg kt pt] env).map (·.2) = [assign (.Tuple tg kt pt) env] := by intro _; rfl) :
    SndS R T cc Γ (.Assign [.Tuple tg kt pt] (.Tuple es k2 pt2) pos) (.asgs ts us) := fun X W ρ0 H0 c tp ns tk hp => by
  refine PS.imp (ps_asg (pe_tup (ha X W ρ0 H0 c tk)) (gNames (hg X c) c.gx.calm (hnn X.env) (hst X.env)) (hs X.env) (hw X.env c.sc) (h1 X.env)) fun D σ H h => ?_
  refine rdO_mono (store_of hn h) fun vs H1 ⟨e, q⟩ => ?_
  have hz' : vs.length ≤ sizeLine := by rw [e, hl, sizeLine_eq]; omega
  exact ⟨hz', fun p hp => ⟨p, vs, rfl, .inl (.inl upd_same), by rw [e, hl], by rw [e, hl], q _ (upd_all hp)⟩⟩
end
end PyD
end
section
set_option Elab.async false
set_option linter.all false
set_option maxRecDepth 100000
set_option maxHeartbeats 2000000
namespace PyD
open PySem PySem.Spec PyProof.Rows L2
theorem permL_nil {α : Type} {l : List α} : permL [] l = l := rfl
theorem zip_look {α β : Type} {P : α → β → Prop} : ∀ {perm : List Nat} {l : List α} {m : List β}, l.length = m.length → (∀ (i : Nat) (a : α) (b : β), l[i]? = some a → m[i]? = some b → P a b) → ∀ k : Nat,
    (∃ a b, (perm.zip l).lookup k = some a ∧ (perm.zip m).lookup k = some b ∧ P a b) ∨ ((perm.zip l).lookup k = none ∧ (perm.zip m).lookup k = none)
  | [], _, _, _, _, _ => .inr ⟨rfl, rfl⟩
  | _ :: _, [], [], _, _, _ => .inr ⟨rfl, rfl⟩
  | p :: perm, a :: l, b :: m, hl, hp, k => by
    simp only [List.zip_cons_cons, List.lookup_cons]
    cases e : (k == p) with
    | true => exact .inl ⟨a, b, rfl, rfl, hp 0 a b rfl rfl⟩
    | false => exact zip_look (by simpa using hl) (fun i x y h1 h2 => hp (i + 1) x y h1 h2) k
theorem filt_look {α β : Type} {f : Nat → Option α} {g : Nat → Option β} : ∀ {l : List Nat}, (∀ k, (f k).isSome = (g k).isSome) → (l.filterMap f).length = (l.filterMap g).length
  | [], _ => rfl
  | k :: l, h => by
    have h1 := h k
    cases e1 : f k <;> cases e2 : g k <;> rw [e1, e2] at h1 <;> first | (cases h1; done) | skip
    · rw [List.filterMap_cons_none e1, List.filterMap_cons_none e2]; exact filt_look h
    · rw [List.filterMap_cons_some e1, List.filterMap_cons_some e2]; simp [filt_look (l := l) h]
/-- how many come of it hangs on how many went in alone -/
theorem permL_len {α β : Type} {perm : List Nat} {l : List α} {m : List β} (h : l.length = m.length) : (permL perm l).length = (permL perm m).length := by
  unfold permL
  split
  · exact h
  · rw [h]
    refine filt_look fun k => ?_
    rcases zip_look (P := fun _ _ => True) (perm := perm) h (fun _ _ _ _ _ => trivial) k with ⟨a, b, e1, e2, _⟩ | ⟨e1, e2⟩ <;> rw [e1, e2] <;> rfl
theorem permL_reps {R : RC} {ρ : List (List Addr)} {H : Hp} {perm : List Nat} {ds : List D} {vs : List V} (r : Reps R ρ H ds vs) : Reps R ρ H (permL perm ds) (permL perm vs) := by
  unfold permL
  split
  · exact r
  · rw [r.length]
    have key : ∀ l : List Nat, Reps R ρ H (l.filterMap fun k => (perm.zip ds).lookup k) (l.filterMap fun k => (perm.zip vs).lookup k) := by
      intro l
      induction l with
      | nil => exact .nil
      | cons k l ih =>
        rcases zip_look (P := fun d v => Rep R ρ H d v) (perm := perm) r.length (fun i d v h1 h2 => by obtain ⟨w, e1, e2⟩ := r.get h1; rw [h2] at e1; cases e1; exact e2) k with ⟨a, b, e1, e2, e3⟩ | ⟨e1, e2⟩
        · simp only [List.filterMap_cons, e1, e2]; exact .cons e3 ih
        · simp only [List.filterMap_cons, e1, e2]; exact ih
    exact key _
theorem permL_vals {perm : List Nat} {vs : List V} {us : List Value} (r : Vals vs us) : Vals (permL perm vs) (permL perm us) := by
  unfold permL
  split
  · exact r
  · rw [r.length]
    have get : ∀ {vs : List V} {us : List Value}, Vals vs us → ∀ (i : Nat) (v : V) (u : Value), vs[i]? = some v → us[i]? = some u → RelV v u := by
      intro vs us r
      induction r with
      | nil => intro i v u h; simp at h
      | cons a t ih =>
        intro i v u h1 h2
        cases i with
        | zero => simp at h1 h2; subst h1 h2; exact a
        | succ i => exact ih i v u (by simpa using h1) (by simpa using h2)
    have key : ∀ l : List Nat, Vals (l.filterMap fun k => (perm.zip vs).lookup k) (l.filterMap fun k => (perm.zip us).lookup k) := by
      intro l
      induction l with
      | nil => exact .nil
      | cons k l ih =>
        rcases zip_look (P := RelV) (perm := perm) r.length (get r) k with ⟨a, b, e1, e2, e3⟩ | ⟨e1, e2⟩
        · simp only [List.filterMap_cons, e1, e2]; exact .cons e3 ih
        · simp only [List.filterMap_cons, e1, e2]; exact ih
    exact key _
/-- a call by keywords binds so -/
def KwOk (fd : FuncData) (ps : List Str) (n : Nat) (ks : List Str) : Prop := ∀ us ws : List Value, us.length = n → ws.length = ks.length → bindArgs fd ⟨us, ks.zip ws⟩ = pure (ps.zip (permL (permK ps (n + ks.length) ks) (us ++ ws)))
/-- a def at a: its promise is F -/
structure FnA (R : RC) (T : Tab) (k : Nat) (a : Addr) (fd : FuncData) (ps : List Str) (F : CloT → List D → G → Res) : Prop where
  bind : ∀ us : List Value, us.length = ps.length → bindArgs fd ⟨us, []⟩ = pure (ps.zip us)
  kwb : ∀ p ∈ R.kwt fd.qualname, KwOk fd ps p.1 p.2
  run : ∀ (A : Around) (outer : List Env) (s : Shared) (H : Hp) (args : Args) (us : List Value) (vs : List V) (ρ : List (List Addr)) (g : G) (ds : List D) (ct : CloT) (Q : VK) (E : XK), Room k A → A.guards = some [] → Env0 R.P R.w R.K R.mg R.base A outer s H →
    BindsTo s fd args (ps.zip us) → Vals vs us → GR R T ρ H g → Reps R ρ H ds vs → ds.length = ps.length → CloOk R T ct outer s H → Ans R T ρ H (F ct ds g) Q (fun c dx H' => E c dx H') →
    codeAny (model R.P R.w) A (.call (.ref a) args) (CR (L2.CX R.P R.w) outer R.P R.w H s Q E) s
structure FnS (R : RC) (T : Tab) (k : Nat) (x : Str) (ps : List Str) (F : CloT → List D → G → Res) : Prop where
  ex : ∃ (a : Addr) (fd : FuncData), R.mg x = some (.ref a) ∧ PySem.W.keepIn R.K (.ref a) = true ∧ fd.qualname = x ∧ FnA R T k a fd ps F
theorem deeper_guards {A : Around} {env : Env} (h : A.guards = some []) : (A.deeper env).guards = some [] := by
  first | exact h | (simp [Around.deeper, h])
section
variable {R : RC} {T : Tab} {cc : CC}
/-- closures of the callers, as a def goes on -/
theorem CloOk.step {X : Cx} {pins : List (Addr × Obj)} {σ : St} {H : Hp} {s : Shared} {ct : CloT} (I : L2.Inv X pins σ H s) (hx : X.ex = []) (hs : X.stack = X.env :: X.outer) (hf : X.env.frame = some X.env.locals) (h : CloOk R T ct X.outer X.s_0 X.H_0) : CloOk R T ct X.stack s H := by
  intro id cs ds g ρ1 H1 s1 A1 outer1 a us vs Q E u
  refine h id cs ds g ρ1 H1 s1 A1 outer1 a us vs Q E ?_
  have b := I.base
  rw [hx] at b
  have nL : ∀ c o, X.s_0.heap.get? c = some o → c ∉ frs X.outer → c ∉ frs X.stack := fun c o e n hm => by
    rcases List.mem_cons.mp (I.stkSub c hm) with z | z
    · exact absurd (Nat.lt_of_lt_of_le (Heap.lt_size e) I.ok.above) (by rw [z]; exact Nat.lt_irrefl _)
    · exact n z
  have inS : ∀ c, c ∈ frs X.outer → c ∈ frs X.stack := fun c hc => by
    rw [hs]
    unfold frs at hc ⊢
    rw [List.filterMap_cons, hf]
    exact List.mem_cons_of_mem _ hc
  refine ⟨fun c o e n hc hn => u.keep c o (b.keep c o e n hc hn) (b.free c o e n hn) (nL c o e hc) hn, fun c o e n hc hn => ?_, fun c o e n hn => ?_, fun c o e hn => ?_, fun c xs e => u.tups c xs (b.tups c xs e), fun c o v e => u.frzs c o v (b.frzs c o v e), fun c ps e => ?_⟩
  · obtain ⟨sl, e1⟩ := b.slot c o e n hc hn
    obtain ⟨sl2, e2⟩ := u.slot c _ e1 (b.free c o e n hn) (inS c hc) hn
    exact ⟨sl2, e2⟩
  · obtain ⟨o', e1⟩ := b.there c o e hn
    exact u.free c o' e1 (b.free c o e n hn) hn
  · obtain ⟨o', e1⟩ := b.there c o e hn
    exact u.there c o' e1 hn
  · obtain ⟨m1, e1⟩ := b.tbls c ps e
    obtain ⟨m2, e2⟩ := u.tbls c _ e1
    exact ⟨m1 ++ m2, by rw [e2, Array.append_assoc]⟩
theorem start_sr {ρ : List (List Addr)} {H : Hp} {g : G} {N : List Str} {ds : List D} {vs : List V} (G0 : GR R T ρ H g) (r : Reps R ρ H ds vs) (hl : ds.length ≤ N.length) : SR R T ρ H (startL N.length ds) g (L2.start N vs) := by
  have own : ∀ {i : Nat} {o : Bool} {d : D}, (startL N.length ds)[i]? = some (some (o, d)) → o = false ∧ ds[i]? = some d := fun {i o d} h => by
    unfold startL at h
    by_cases hi : i < ds.length
    · rw [List.getElem?_append_left (by simpa using hi), List.getElem?_map, List.getElem?_eq_getElem hi] at h
      cases h
      exact ⟨rfl, List.getElem?_eq_getElem hi⟩
    · rw [List.getElem?_append_right (by simpa using hi), List.getElem?_replicate] at h
      split at h <;> cases h
  refine ⟨G0, fun i o d h => ?_, fun i j d e a h1 => ?_, fun i d a h1 => ?_, ?_⟩
  · obtain ⟨rfl, h1⟩ := own h
    obtain ⟨v, h2, h3⟩ := r.get h1
    refine ⟨v, ?_, h3⟩
    unfold L2.start
    rw [List.getElem?_append_left (by simpa using (List.getElem?_eq_some_iff.mp h2).1), List.getElem?_map, h2]
    rfl
  · cases (own h1).1
  · cases (own h1).1
  · unfold startL L2.start
    have := r.length
    simp
    omega
/-- a def, from its text -/
theorem FnA.ofL {k : Nat} {f : Addr} {name qual : Str} {params : Arguments} {body : List Stmt} {scope : Scope} {dV kV doc pm cdv ct oc : Value} {an od : Option Addr} {osl : Array (Option Value)} {N ps : List Str} {Γ : CloT → (Nat → List Nat) → Env'} {t : List S} {F : CloT → List D → G → Res}
    (lk : R.K.lookup f = some ⟨oc, od, .func (PySem.W.fnOf name qual params body scope dV kV doc pm an cdv ct), osl⟩) (hcd : PySem.W.codeIn R.K cdv qual = true) (S : FnScope N ps scope) (hb : ∀ us : List Value, us.length = ps.length → bindArgs (PySem.W.fnOf name qual params body scope dV kV doc pm an cdv ct) ⟨us, []⟩ = pure (ps.zip us)) (hkw : ∀ p ∈ R.kwt qual, KwOk (PySem.W.fnOf name qual params body scope dV kV doc pm an cdv ct) ps p.1 p.2)
    (hF : ∀ ct ds g, ds.length = ps.length → F ct ds g ≠ .bad → ∀ κ, F ct ds g = (exes (Γ ct κ) t (startL N.length ds) g).fn) (hbody : ∀ ct κ, SndSs R T ⟨N, scope, k, true⟩ (Γ ct κ) body t)
    (hlam : ∀ ct κ, (Γ ct κ).mine ≠ [] → (Γ ct κ).caps = κ ∧ (Γ ct κ).qual = qual ++ ".<locals>." ∧ ∃ c P : Addr, cdv = .ref c ∧ LamX.TabB R.base R.mg c P ∧ (P, (Γ ct κ).qual ++ "<lambda>") ∈ T ∧ ∀ p ∈ T, p.1 = P → p.2 = (Γ ct κ).qual ++ "<lambda>")
    (hclo : ∀ (ct' : CloT) (X : Cx) (pins : List (Addr × Obj)) (s : Shared) (σ : St) (H : Hp) (ρ : List (List Addr)) (loc : Loc) (g : G), GX R X → X.N = N → (∃ L fa, X.env = envOfC qual scope L fa cdv) → X.ex = [] → X.stack = X.env :: X.outer → X.env.frame = some X.env.locals → Room k X.A → CloOk R T ct' X.stack s H → L2.Inv X pins σ H s → SR R T ρ H loc g σ → CloOk R T ((Γ ct' (capsOf R X.env.cells)).sub loc) X.stack s H) :
    FnA R T (k + 1) f (PySem.W.fnOf name qual params body scope dV kV doc pm an cdv ct) ps F := by
  refine ⟨hb, hkw, fun A outer s H args us vs ρ g ds ct' Q E hr hg e0 hbi rv G0 rr hl co q => ?_⟩
  have hpl : ps.length ≤ N.length := by have := congrArg List.length S.pre; rw [List.length_take] at this; omega
  refine LamX.run_ofS (N := N) lk hcd S hr e0 hbi rv (by rw [← rr.length, hl]) fun hr' => ?_
  have gx : GX R (cxOf (L2.CX R.P R.w) R.P R.w R.K R.mg R.base N qual scope f cdv A outer s H E) := ⟨rfl, rfl, rfl, rfl, rfl, S.nd, rfl, deeper_guards hg⟩
  have c : CtxOk R T (cxOf (L2.CX R.P R.w) R.P R.w R.K R.mg R.base N qual scope f cdv A outer s H E) ⟨N, scope, k, true⟩ (Γ ct' (capsOf R (envOfC qual scope s.heap.objs.size f cdv).cells)) := by
    refine ⟨gx, rfl, rfl, hr', fun _ _ => rfl, fun _ => ⟨rfl, rfl⟩, fun _ => rfl, fun z => ?_, fun pn xe pins s' σ H' ρ' loc g' I SS => ?_⟩
    · obtain ⟨l1, l2, l3⟩ := hlam ct' (capsOf R (envOfC qual scope s.heap.objs.size f cdv).cells) z
      exact ⟨l1, l2.symm, l3⟩
    exact hclo ct' (Cx.tr (cxOf (L2.CX R.P R.w) R.P R.w R.K R.mg R.base N qual scope f cdv A outer s H E) pn xe) pins s' σ H' ρ' loc g' ⟨gx.prog, gx.w, gx.K, gx.mg, gx.base, gx.nd, gx.calm, gx.ga⟩ rfl ⟨_, _, rfl⟩ rfl rfl rfl hr' (CloOk.step (X := Cx.tr (cxOf (L2.CX R.P R.w) R.P R.w R.K R.mg R.base N qual scope f cdv A outer s H E) pn xe) I rfl rfl rfl co) I SS
  refine ⟨_, hbody ct' _ _ (fun cls d _ H => E cls d H) ρ H c rfl (fun _ _ _ _ _ h => h) (takes_of rfl rfl rfl rfl) (passes_of rfl), ρ, startL N.length ds, g, start_sr G0 rr (by omega), Stp.refl G0, fun i d a h1 _ => ?_, ?_⟩
  · have S0 := start_sr (N := N) G0 rr (by omega)
    exfalso
    unfold startL at h1
    by_cases hi : i < ds.length
    · rw [List.getElem?_append_left (by simpa using hi), List.getElem?_map, List.getElem?_eq_getElem hi] at h1
      cases h1
    · rw [List.getElem?_append_right (by simpa using hi), List.getElem?_replicate] at h1
      split at h1 <;> cases h1
  · have nb : F ct' ds g ≠ .bad := fun z => by rw [z] at q; exact q.elim
    rw [hF ct' ds g hl nb (capsOf R (envOfC qual scope s.heap.objs.size f cdv).cells)] at q
    cases e : exes (Γ ct' (capsOf R (envOfC qual scope s.heap.objs.size f cdv).cells)) t (startL N.length ds) g with
    | bad => rw [e] at q; exact q
    | bk l g' => rw [e] at q; exact q.elim
    | ex c fs g' =>
      rw [e] at q
      exact fun ρ' C dx σ' H' a b d => q ρ' C dx H' a b d
    | rt own d g' =>
      rw [e] at q
      exact fun ρ' v H' a b f => q ρ' v H' a b f
    | nx l g' =>
      rw [e] at q
      exact fun ρ' σ' H' b => q ρ' .non H' b.st .non fun z => by cases z
/-- .. without lambdas -/
theorem FnA.of {k : Nat} {f : Addr} {name qual : Str} {params : Arguments} {body : List Stmt} {scope : Scope} {dV kV doc pm cdv ct oc : Value} {an od : Option Addr} {osl : Array (Option Value)} {N ps : List Str} {Γ : CloT → Env'} {t : List S} {F : CloT → List D → G → Res}
    (lk : R.K.lookup f = some ⟨oc, od, .func (PySem.W.fnOf name qual params body scope dV kV doc pm an cdv ct), osl⟩) (hcd : PySem.W.codeIn R.K cdv qual = true) (S : FnScope N ps scope) (hb : ∀ us : List Value, us.length = ps.length → bindArgs (PySem.W.fnOf name qual params body scope dV kV doc pm an cdv ct) ⟨us, []⟩ = pure (ps.zip us)) (hkw : ∀ p ∈ R.kwt qual, KwOk (PySem.W.fnOf name qual params body scope dV kV doc pm an cdv ct) ps p.1 p.2)
    (hF : ∀ ct ds g, ds.length = ps.length → F ct ds g = (exes (Γ ct) t (startL N.length ds) g).fn) (hbody : ∀ ct, SndSs R T ⟨N, scope, k, true⟩ (Γ ct) body t) (h1 : ∀ ct, (Γ ct).mine = []) (h2 : ∀ ct, (Γ ct).clo = ct) :
    FnA R T (k + 1) f (PySem.W.fnOf name qual params body scope dV kV doc pm an cdv ct) ps F :=
  FnA.ofL (Γ := fun c _ => Γ c) lk hcd S hb hkw (fun ct ds g hl _ _ => hF ct ds g hl) (fun ct _ => hbody ct) (fun ct _ z => absurd (h1 ct) z) fun ct' X pins s σ H ρ loc g _ _ _ _ _ _ _ co _ _ => by
    have e : (Γ ct').sub loc = ct' := by
      funext id cs args g'
      unfold Env'.sub
      rw [h1, h2]
      rfl
    rw [e]
    exact co
variable {Γ : Env'}
theorem plain_len : ∀ {as : List Arg} {ds : List D}, plainArgs as = some ds → ds.length = as.length
  | [], _, h => by cases h; rfl
  | .v d :: as, ds, h => by
    unfold plainArgs at h
    cases e : plainArgs as with
    | none => rw [e] at h; cases h
    | some r => rw [e] at h; cases h; simp [plain_len e]
  | .b _ :: _, _, h => by cases h
theorem rdA_callL {W : WX} {σ : St} {H : Hp} {Q : VK} {ts : List E} {k : Loc → List D → G → Res} (h : rdE R T W (fun loc g => (denA Γ ts loc g).call (k loc)) σ H Q) :
    rdA R T W (denA Γ ts) σ H fun vs H1 => ∃ ρ1 loc ds g1, ds.length = ts.length ∧ Reps R ρ1 H1 ds vs ∧ SR R T ρ1 H1 loc g1 σ ∧ Ans R T ρ1 H1 (k loc ds g1) Q (fun c dx H' => W c dx σ H') := by
  obtain ⟨ρ, loc, g, S, q⟩ := h
  refine ⟨ρ, loc, g, S, ?_⟩
  dsimp only at q
  cases e : denA Γ ts loc g with
  | bad => rw [e] at q; exact q
  | ex c fs g' => rw [e] at q; exact q
  | ok as g' =>
    rw [e] at q
    dsimp only [ResA.call] at q
    intro ρ' vs H' st av
    cases e2 : plainArgs as with
    | none => rw [e2] at q; exact q.elim
    | some ds =>
      rw [e2] at q
      exact ⟨ρ', loc, ds, g', by rw [plain_len e2, denA_len e], plain_val av e2, st.sr S, Ans.step st q⟩
theorem call_runA {X : Cx} {W : WX} {k : Nat} {a : Addr} {fd : FuncData} {ps : List Str} {F : CloT → List D → G → Res} (c : CtxOk R T X cc Γ) (tk : Takes X W) (fa : FnA R T k a fd ps F) (hk : k ≤ cc.k)
    {pins : List (Addr × Obj)} {σ : St} {H : Hp} {s : Shared} {Q : VK} {pos : List Value} {kw : List (Str × Value)} {us : List Value} {vs : List V} {ρ : List (List Addr)} {loc : Loc} {g : G} {ds : List D} (hb : bindArgs fd ⟨pos, kw⟩ = pure (ps.zip us)) (I : L2.Inv X pins σ H s) (S : SR R T ρ H loc g σ) (rv : Vals vs us) (rr : Reps R ρ H ds vs) (hl : ds.length = ps.length)
    (q : Ans R T ρ H (F (Γ.sub loc) ds g) Q (fun c dx H' => W c dx σ H')) : wpAny (model X.prog X.w) X.A (call (.ref a) pos kw) (EP X pins σ Q) X.xe s := by
  have e0 := I.env0
  rw [c.gx.prog, c.gx.w, c.gx.K, c.gx.mg, c.gx.base] at e0
  have r := fa.run X.A X.stack s H ⟨pos, kw⟩ us vs ρ g ds (Γ.sub loc) Q (fun c dx H' => W c dx σ H') (c.room.mono hk) c.gx.ga e0 (.of_eq hb) rv S.gr rr hl (c.clo pins s σ H ρ loc g I S) q
  rw [← c.gx.prog, ← c.gx.w] at r
  refine wpAny_call (codeAny_mono r fun r s' hq => ?_)
  cases r with
  | error e => exact passAt tk σ pins H s e s' I hq
  | ok fl =>
    cases fl with
    | ret u => exact I.after hq
    | next => exact False.elim hq
    | brk => exact False.elim hq
    | cont => exact False.elim hq
theorem call_run {X : Cx} {W : WX} {k : Nat} {a : Addr} {fd : FuncData} {ps : List Str} {F : CloT → List D → G → Res} (c : CtxOk R T X cc Γ) (tk : Takes X W) (fa : FnA R T k a fd ps F) (hk : k ≤ cc.k)
    {pins : List (Addr × Obj)} {σ : St} {H : Hp} {s : Shared} {Q : VK} {us : List Value} {vs : List V} {ρ : List (List Addr)} {loc : Loc} {g : G} {ds : List D} (I : L2.Inv X pins σ H s) (S : SR R T ρ H loc g σ) (rv : Vals vs us) (rr : Reps R ρ H ds vs) (hl : ds.length = ps.length)
    (q : Ans R T ρ H (F (Γ.sub loc) ds g) Q (fun c dx H' => W c dx σ H')) : wpAny (model X.prog X.w) X.A (call (.ref a) us) (EP X pins σ Q) X.xe s :=
  call_runA c tk fa hk (fa.bind us (by rw [← rv.length, ← rr.length, hl])) I S rv rr hl q
theorem SndE.call {k : Nat} {x : Str} {ps : List Str} {F : CloT → List D → G → Res} {e : Expr} {es : List Expr} {t : E} {ts : List E} {p pos : Pos} (fs : FnS R T k x ps F) (hF : Γ.fn x = F) (hk : k ≤ cc.k) (hlen : (t :: ts).length = ps.length) (hg : globB cc x = true) (ha : SndA R T cc Γ (e :: es) (t :: ts))
    (he : ∀ env, starEach (e :: es) env = (false, eval e env) :: starEach es env := by intro _; rfl) (hpl : ∀ env, (backTo pos (starEach es env)).any (·.1) = false := by intro _; rfl) : SndE R T cc Γ (.Call (.Name x p) (e :: es) [] pos) (.call x (t :: ts) []) := fun X W c tk => by
  obtain ⟨a, fd, hm, hkp, hqn, fa⟩ := fs.ex
  obtain ⟨h1, h2, h3⟩ := globB_ok c hg
  refine ⟨fun pins s σ H Q I h => ?_⟩
  have h' : rdE R T W (fun loc g => (denA Γ (t :: ts) loc g).call fun ds g1 => F (Γ.sub loc) ds g1) σ H Q := by
    obtain ⟨ρ, loc, g, S, q⟩ := h
    unfold den at q
    rw [hF] at q
    exact ⟨ρ, loc, g, S, q⟩
  have h'' := rdA_callL (k := fun loc ds g1 => F (Γ.sub loc) ds g1) h'
  refine wpAny_Call_Name_kw (ld_glob I h1 (by rw [c.gx.mg]; exact hm) ?_ h2)
  refine PySem.W.callWith_K (h₀ := X.base) I.ok.mod.kin (by rw [c.gx.K]; exact hkp) (thn ((ha X W c tk).run pos pins s σ H _ I h'') fun us s1 ⟨vs, H1, I1, r, ρ1, loc, ds, g1, hl, rr, S1, q⟩ => ⟨I1.kIn, ?_⟩) (he X.env) (hpl X.env)
  exact call_run c tk fa hk I1 S1 r rr (hl.trans hlen) q
end
end PyD
end
section
set_option Elab.async false
set_option linter.all false
set_option maxRecDepth 100000
set_option maxHeartbeats 2000000
namespace PyD
open PySem PySem.Spec PyProof.Rows L2
section
variable {R : RC} {T : Tab} {ρ ρ' : List (List Addr)} {H H' : Hp} {g : G}
theorem nd_at {ρ : List (List Addr)} (nd : ρ.flatten.Nodup) : ∀ {i j : Nat} {l l' : List Addr} {a : Addr}, ρ[i]? = some l → ρ[j]? = some l' → a ∈ l → a ∈ l' → i = j := by
  induction ρ with
  | nil => intro i j l l' a h; simp at h
  | cons m r ih =>
    intro i j l l' a h1 h2 m1 m2
    rw [List.flatten_cons] at nd
    obtain ⟨n1, n2, n3⟩ := List.nodup_append.mp nd
    cases i with
    | zero =>
      cases j with
      | zero => rfl
      | succ j =>
        simp at h1 h2; subst h1
        exact absurd rfl (n3 a m1 a (mem_flat h2 m2))
    | succ i =>
      cases j with
      | zero =>
        simp at h1 h2; subst h2
        exact absurd rfl (n3 a m2 a (mem_flat h1 m1))
      | succ j =>
        have := ih n2 (i := i) (j := j) (by simpa using h1) (by simpa using h2) m1 m2
        omega
/-- the instance in box k is written -/
theorem Stp.box {k : Nat} {a C dx : Addr} {c : Str} {fs fs' : List (Str × D)} {ks ks' : List (Str × V)} {l : List Addr} (G0 : GR R T ρ H g) (hk : g.bx[k]? = some (.ins c fs)) (hl : ρ[k]? = some l) (ha : a ∈ l) (hH : H a = some (.ins C dx ks)) (hm : R.mg c = some (.ref C)) (r : RepF R ρ H fs' ks') (hl2 : l = [a]) :
    Stp R T ρ ρ H (upd H a (.ins C dx ks')) ⟨g.bx.set k (.ins c fs')⟩ := by
  have ee : Ext H (upd H a (.ins C dx ks')) := Ext.mut hH rfl
  have af : a ∈ ρ.flatten := mem_flat hl ha
  refine ⟨RNew.refl ρ H, ⟨fun b o hb h2 h3 => by rw [upd_ne (fun z => h2 (by rw [z]; exact af))]; exact hb, fun b ps hb => ⟨ps, by rw [upd_ne (fun z => by rw [z, hH] at hb; cases hb)]; exact hb⟩⟩, ⟨fun i ob h => ?_, by rw [G0.len]; simp, G0.nd, fun p hp => (G0.tab p hp).ext ee fun ps h => by rw [upd_ne (fun z => by rw [z, hH] at h; cases h)]; exact h⟩⟩
  by_cases hi : i = k
  · subst hi
    rw [List.getElem?_set_self (List.getElem?_eq_some_iff.mp hk).1] at h; cases h
    refine ⟨l, hl, a, C, dx, ks', hl2, upd_same, hm, RepF.ext (RExt.refl _) ee r⟩
  · have h' : g.bx[i]? = some ob := by
      have : (g.bx.set k (.ins c fs'))[i]? = some ob := h
      rw [List.getElem?_set_ne (Ne.symm hi)] at this; exact this
    obtain ⟨l2, e1, e2⟩ := G0.bx i ob h'
    exact ⟨l2, e1, e2.keep (RExt.refl _) ee fun b o hb hh => by rw [upd_ne (fun z => hi (nd_at (a := a) G0.nd e1 hl (by rw [← z]; exact hb) ha))]; exact hh⟩
theorem RepF.put {f : Str} {d : D} {v : V} (r : Rep R ρ H d v) : ∀ {fs : List (Str × D)} {ks : List (Str × V)}, RepF R ρ H fs ks → RepF R ρ H (putD f d fs) (putF f v ks)
  | _, _, .nil => .cons r .nil
  | (g, x) :: fs, (_, y) :: ks, .cons q t => by
    unfold putD putF
    by_cases h : g = f
    · rw [if_pos h, if_pos h]; exact .cons r t
    · rw [if_neg h, if_neg h]; exact .cons q (RepF.put r t)
theorem RepF.length : ∀ {fs : List (Str × D)} {ks : List (Str × V)}, RepF R ρ H fs ks → fs.length = ks.length
  | _, _, .nil => rfl
  | _, _, .cons _ t => by simp [RepF.length t]
mutual
theorem Rep.flat : ∀ {d : D} {v : V}, noBox d = true → Rep R ρ H d v → Rep R ρ' H d v
  | _, _, _, .non => .non
  | _, _, _, .bl b => .bl b
  | _, _, _, .int i => .int i
  | _, _, _, .str s => .str s
  | _, _, _, .ty n => .ty n
  | _, _, h, .tup h1 r => .tup h1 (Reps.flat (by simpa [noBox] using h) r)
  | _, _, h, .lst h1 r => .lst h1 (Reps.flat (by simpa [noBox] using h) r)
  | _, _, h, .ins h1 m r => .ins h1 m (RepF.flat (by simpa [noBox] using h) r)
  | _, _, h, .exc h1 h2 h3 h4 h5 h6 r => .exc h1 h2 h3 h4 h5 h6 (RepF.flat (by simpa [noBox] using h) r)
  | _, _, _, .excN h1 h2 h3 h4 h5 => .excN h1 h2 h3 h4 h5
  | _, _, _, .fn h => .fn h
  | _, _, _, .clo h c => .clo h c
  | _, _, h, .box _ => by simp [noBox] at h
  | _, _, h, .dic h1 r => .dic h1 (RepK.flat (by simpa [noBox] using h) r)
  | _, _, _, .scr h => .scr h
theorem RepK.flat : ∀ {ds : List (D × D)} {vs : List (Key × V)}, noBoxK ds = true → RepK R ρ H ds vs → RepK R ρ' H ds vs
  | _, _, _, .nil => .nil
  | _, _, h, .cons r t => by
    simp only [noBoxK, Bool.and_eq_true] at h
    exact .cons (Rep.flat h.1 r) (RepK.flat h.2 t)
theorem Reps.flat : ∀ {ds : List D} {vs : List V}, noBoxs ds = true → Reps R ρ H ds vs → Reps R ρ' H ds vs
  | _, _, _, .nil => .nil
  | _, _, h, .cons r t => by
    simp only [noBoxs, Bool.and_eq_true] at h
    exact .cons (Rep.flat h.1 r) (Reps.flat h.2 t)
theorem RepF.flat : ∀ {ds : List (Str × D)} {vs : List (Str × V)}, noBoxF ds = true → RepF R ρ H ds vs → RepF R ρ' H ds vs
  | _, _, _, .nil => .nil
  | _, _, h, .cons r t => by
    simp only [noBoxF, Bool.and_eq_true] at h
    exact .cons (Rep.flat h.1 r) (RepF.flat h.2 t)
end
end
section
variable {R : RC} {T : Tab} {cc : CC} {Γ : Env'}
/-- self.f = e -/
theorem SndS.fput {x f : Str} {i : Nat} {e : Expr} {te : E} {p p' pos : Pos} (hx : slotB cc i x = true) (he : SndE R T cc Γ e te) (hC : ∀ c C, Γ.field c f = true → R.mg c = some (.ref C) → Cls R.K C ∧ NoAttr R.K C f)
    (hs : ∀ env, swapsWith e (some (.Attribute (.Name x p) f p')) pos.line env = pure false := by intro _; rfl) : SndS R T cc Γ (.Assign [.Attribute (.Name x p) f p'] e pos) (.fput i f te) := fun X W ρ0 H0 c tp ns tk hp => by
  obtain ⟨n1, n2, n3, n4⟩ := slotB_ok c hx
  refine PS.imp (ps_fld (pe_var n1 n2 n3 n4) (pe_frz (he X W c tk)) (hs X.env)) fun D σ H ⟨ρ, loc, g, S, st, fr, q⟩ => ?_
  obtain ⟨k, hl⟩ : ∃ k, loc[i]? = some (some (false, .box k)) := by
    simp only [exe] at q
    split at q
    · exact ⟨_, by assumption⟩
    · exact q.elim
  simp only [exe, hl] at q
  refine ⟨ρ, loc, g, S, ?_⟩
  dsimp only
  cases e1 : den Γ te loc g with
  | bad => rw [e1] at q; exact q
  | ex c' fs g' =>
    rw [e1] at q
    exact fun ρ' C dx H' st' hm hx => q ρ' C dx σ H' (st.trans st') hm hx
  | ok own d g1 =>
    rw [e1] at q
    dsimp only [Res.st, Res.frz] at q ⊢
    intro ρ1 v H1 st1 rv _
    have S1 := st1.sr S
    cases eb : g1.bx[k]? with
    | none => rw [eb] at q; exact q.elim
    | some ob =>
      cases ob with
      | drw a b c d => rw [eb] at q; exact q.elim
      | ins c' fs =>
        rw [eb] at q
        dsimp only at q
        by_cases hz : (decide (fs.length < 1000) && Γ.field c' f) = true
        case neg => rw [if_neg hz] at q; exact q.elim
        rw [if_pos hz] at q
        simp only [Bool.and_eq_true, decide_eq_true_eq] at hz
        obtain ⟨l, e2, a, C, dx, ks, rfl, h1, h2, h3⟩ := S1.gr.bx k _ eb
        obtain ⟨w, w1, w2⟩ := S1.sl i false _ hl
        have w2' : Rep R ρ1 H1 (.box k) w := w2
        cases w2' with
        | @box i' a' t hb =>
          rw [e2] at hb; cases hb
          obtain ⟨cl, na⟩ := hC c' C hz.2 h2
          refine ⟨.ref a, w1, a, C, dx, ks, rfl, h1, c.gx.K ▸ cl, c.gx.K ▸ na, by rw [← RepF.length h3]; exact hz.1, ?_⟩
          have stb := Stp.box S1.gr eb e2 (by simp) h1 h2 (RepF.put (f := f) rv h3) rfl
          have q' := AnsS.step (st1.ext S.gr) st1.n.1 q
          have stA := (st.trans st1).trans stb
          exact q' ρ1 σ _ ⟨stb.sr S1, stA, fr, stb.ext S1.gr, RExt.refl _⟩

/-- the class c at C, its __init__ -/
structure MkS (R : RC) (T : Tab) (k : Nat) (x c : Str) (ps : List Str) (F0 : CloT → List D → G → Res) : Prop where
  ex : ∃ (C f : Addr) (fd : FuncData) (s0 : Str), R.mg x = some (.ref C) ∧ R.mg c = some (.ref C) ∧ Mk R.K C f ∧ fd.qualname = x ++ ".__init__" ∧ FnA R T k f fd (s0 :: ps) F0
theorem make_guards {A : Around} {C : Addr} {us : List Value} (h : A.guards = some []) : (A.under (.builtin "type.__call__" ⟨.ref C :: us, []⟩)).guards = some [] := by
  first | exact h | (simp [Around.under, Code.guards, Code.isGuard, guardIds, pushGuards, h])
theorem last_of {ρ ρ2 : List (List Addr)} {x : List Addr} (h : RExt (ρ ++ [x]) ρ2) (hl : ρ2.length = ρ.length + 1) : ρ2 = ρ ++ [x] := by
  refine List.ext_getElem? fun i => ?_
  by_cases hi : i < (ρ ++ [x]).length
  · rw [h i _ (List.getElem?_eq_getElem hi), List.getElem?_eq_getElem hi]
  · rw [List.getElem?_eq_none (by simp at hi; omega), List.getElem?_eq_none (by simpa using hi)]

/-- the new box taken away -/
theorem unbox_ok {ρ : List (List Addr)} {H H3 : Hp} {g g' : G} {x C C0 dxs dx0 : Addr} {ks : List (Str × V)} {H4 : Hp} (G0 : GR R T ρ H g) (hx : H x = none) (st : Stp R T (ρ ++ [[x]]) (ρ ++ [[x]]) (upd (upd H dxs (.own x)) x (.ins C dxs [])) H3 g') (hd : H dxs = none) (hl : g'.bx.length = ρ.length + 1) (hb : boxFlat g'.bx = true)
    (hH : H3 x = some (.ins C0 dx0 ks)) (same : ∀ b, b ≠ x → H4 b = H3 b) (ee : Ext H3 H4) : Stp R T ρ ρ H H4 ⟨g'.bx.dropLast⟩ := by
  have old : ∀ b u, H b = some u → upd (upd H dxs (.own x)) x (.ins C dxs []) b = some u := fun b u h => by
    rw [upd_ne (ne_of_none h hx), upd_ne (ne_of_none h hd)]; exact h
  have nfl : ∀ {b}, b ∉ ρ.flatten → b ≠ x → b ∉ (ρ ++ [[x]]).flatten := fun {b} h1 h2 hm => by
    rw [List.flatten_append] at hm
    rcases List.mem_append.mp hm with h | h
    · exact h1 h
    · exact h2 (by simpa using h)
  have flat : ∀ (l : List Ob), boxFlat l = true → ∀ (c : Str) (fs : List (Str × D)), Ob.ins c fs ∈ l → noBoxF fs = true := by
    intro l
    induction l with
    | nil => intro _ c fs h; cases h
    | cons ob r ih =>
      intro h c fs hm
      cases ob with
      | drw a b c2 d =>
        rcases List.mem_cons.mp hm with e | hm
        · cases e
        · exact ih h c fs hm
      | ins c2 fs2 =>
        simp only [boxFlat, Bool.and_eq_true] at h
        rcases List.mem_cons.mp hm with e | hm
        · cases e; exact h.1
        · exact ih h.2 c fs hm
  refine ⟨RNew.refl ρ H, ⟨fun b u h1 h2 h3 => ?_, fun b ps h1 => ?_⟩, ⟨fun i ob h => ?_, by simp [hl], G0.nd, fun p hp => ?_⟩⟩
  · have nb := ne_of_none h1 hx
    rw [same _ nb]
    exact st.k.st b u (old b u h1) (nfl h2 nb) h3
  · have nb := ne_of_none h1 hx
    rw [same _ nb]
    exact st.k.tb b ps (old b _ h1)
  · have h' : g'.bx.dropLast[i]? = some ob := h
    have hi : i < g'.bx.length - 1 := by
      have := (List.getElem?_eq_some_iff.mp h').1
      simpa using this
    have h2 : g'.bx[i]? = some ob := by
      rw [List.getElem?_dropLast] at h'
      rw [if_pos hi] at h'
      exact h'
    obtain ⟨l, e1, e2⟩ := st.x.bx i ob h2
    have hi2 : i < ρ.length := by omega
    rw [List.getElem?_append_left hi2] at e1
    refine ⟨l, e1, ?_⟩
    have nx : x ∉ l := fun hm => by
      have : i = ρ.length := nd_at st.x.nd (i := i) (j := ρ.length) (l := l) (l' := [x]) (by rw [List.getElem?_append_left hi2]; exact e1) (by simp) hm (by simp)
      omega
    have e3 : BoxAt R (ρ ++ [[x]]) H4 l ob := e2.keep (RExt.refl _) ee fun b u hb hh => by rw [same b (fun z => nx (by rw [← z]; exact hb))]; exact hh
    cases ob with
    | drw a b c2 d => exact e3
    | ins c2 fs2 =>
      obtain ⟨a, C2, dx2, ks2, p1, p2, p3, p4⟩ := e3
      exact ⟨a, C2, dx2, ks2, p1, p2, p3, RepF.flat (flat _ hb c2 fs2 (List.mem_of_getElem? h2)) p4⟩
  · exact (st.x.tab p hp).ext ee fun ps h => by rw [same p.1 (fun z => by rw [z, hH] at h; cases h)]; exact h
theorem mk_run {X : Cx} {W : WX} {k : Nat} {x c : Str} {ps : List Str} {F0 : CloT → List D → G → Res} (cx : CtxOk R T X cc Γ) (tk : Takes X W) (m : MkS R T k x c ps F0) (hk : k + 1 ≤ cc.k) {C : Addr} (hC : R.mg x = some (.ref C))
    {pins : List (Addr × Obj)} {σ : St} {H : Hp} {s : Shared} {Q : VK} {us : List Value} {vs : List V} {ρ : List (List Addr)} {loc : Loc} {g : G} {ds : List D} (I : L2.Inv X pins σ H s) (S : SR R T ρ H loc g σ) (rv : Vals vs us) (rr : Reps R ρ H ds vs) (hl : ds.length = ps.length)
    (q : Ans R T ρ H (mkR c F0 (Γ.sub loc) ds g) Q (fun c dx H' => W c dx σ H')) : wpAny (model X.prog X.w) X.A (call (.ref C) us) (EP X pins σ Q) X.xe s := by
  obtain ⟨C', f, fd, s0, h1, h2, M, _, fa⟩ := m.ex
  rw [hC] at h1; cases h1
  have M' : Mk X.K C f := cx.gx.K ▸ M
  have I2 := Inv.made (C := C) I
  generalize hn : s.heap.objs.size = n at I2
  have nx : H (n + 1) = none := I.hok.fresh (by omega)
  have nd : H n = none := I.hok.fresh (by omega)
  have nf : n + 1 ∉ ρ.flatten := fun hm => by
    obtain ⟨o, hz, _⟩ := S.gr.unst hm
    rw [nx] at hz; cases hz
  -- the state at __init__
  have kAll : ∀ b u, H b = some u → upd (upd H n (.own (n + 1))) (n + 1) (.ins C n []) b = some u := fun b u h => by
    rw [upd_ne (ne_of_none h nx), upd_ne (ne_of_none h nd)]; exact h
  have e2 : Ext H (upd (upd H n (.own (n + 1))) (n + 1) (.ins C n [])) := Ext.of kAll
  have xx : RExt ρ (ρ ++ [[n + 1]]) := fun i l h => by rw [List.getElem?_append_left (List.getElem?_eq_some_iff.mp h).1]; exact h
  have G2 : GR R T (ρ ++ [[n + 1]]) (upd (upd H n (.own (n + 1))) (n + 1) (.ins C n [])) ⟨g.bx ++ [.ins c []]⟩ := by
    refine ⟨fun i ob h => ?_, by simp [S.gr.len], ?_, fun p hp => (S.gr.tab p hp).ext e2 fun ps h => kAll _ _ h⟩
    · have h' : (g.bx ++ [Ob.ins c []])[i]? = some ob := h
      by_cases hi : i < g.bx.length
      · rw [List.getElem?_append_left hi] at h'
        obtain ⟨l, e3, e4⟩ := S.gr.bx i ob h'
        exact ⟨l, xx i l e3, e4.keep xx e2 fun b o _ hh => kAll b o hh⟩
      · rw [List.getElem?_append_right (by omega)] at h'
        have hi0 : i - g.bx.length = 0 := by
          have := (List.getElem?_eq_some_iff.mp h').1
          simp at this
          omega
        rw [hi0] at h'
        cases h'
        have : i = ρ.length := by rw [S.gr.len]; omega
        subst this
        exact ⟨[n + 1], by simp, n + 1, C, n, [], rfl, upd_same, h2, .nil⟩
    · rw [List.flatten_append]
      refine List.nodup_append.mpr ⟨S.gr.nd, by simp, fun a ha b hb z => ?_⟩
      have : b = n + 1 := by simpa using hb
      exact nf (by rw [← this, ← z]; exact ha)
  have rr2 : Reps R (ρ ++ [[n + 1]]) (upd (upd H n (.own (n + 1))) (n + 1) (.ins C n [])) (.box g.bx.length :: ds) (.ref (n + 1) :: vs) := .cons (.box (t := []) (by rw [← S.gr.len]; simp)) (Reps.ext xx e2 rr)
  have rv2 : Vals (V.ref (n + 1) :: vs) (Value.ref (n + 1) :: us) := .cons rfl rv
  have hu : (Value.ref (n + 1) :: us).length = (s0 :: ps).length := by rw [← rv2.length, ← rr2.length]; simp [hl]
  have S2 : SR R T (ρ ++ [[n + 1]]) (upd (upd H n (.own (n + 1))) (n + 1) (.ins C n [])) loc ⟨g.bx ++ [.ins c []]⟩ σ := S.keep ⟨xx, fun b hb => by
    rw [List.flatten_append] at hb
    rcases List.mem_append.mp hb with h | h
    · exact .inl h
    · have : b = n + 1 := by simpa using h
      exact .inr (by rw [this]; exact nx)⟩ (Keep.of kAll) G2
  have e0 := I2.env0.make C us []
  rw [cx.gx.prog, cx.gx.w, cx.gx.K, cx.gx.mg, cx.gx.base] at e0
  have hroom : Room (k + 1) X.A := cx.room.mono hk
  -- what __init__ leaves
  have lastBox : ∀ {ρ3 : List (List Addr)} {H3 : Hp} {g' : G} {ob : Ob}, Stp R T (ρ ++ [[n + 1]]) ρ3 (upd (upd H n (.own (n + 1))) (n + 1) (.ins C n [])) H3 g' → g'.bx.length = g.bx.length + 1 → g'.bx.getLast? = some ob → ρ3 = ρ ++ [[n + 1]] ∧ ∃ c' fs C' dx ks, ob = .ins c' fs ∧ H3 (n + 1) = some (.ins C' dx ks) ∧ R.mg c' = some (.ref C') ∧ RepF R ρ3 H3 fs ks := fun {ρ3 H3 g' ob} st hlen hlast => by
    have h3 : ρ3 = ρ ++ [[n + 1]] := last_of st.n.1 (by rw [st.x.len, hlen, S.gr.len])
    subst h3
    refine ⟨rfl, ?_⟩
    have hob : g'.bx[ρ.length]? = some ob := by
      rw [List.getLast?_eq_getElem?, hlen] at hlast
      rw [S.gr.len]
      exact hlast
    obtain ⟨l, p1, p2⟩ := st.x.bx _ ob hob
    have : l = [n + 1] := by simpa using p1.symm
    subst this
    cases ob with
    | drw a b c2 d =>
      obtain ⟨a', b', c', kvs', e, _⟩ := p2
      cases e
    | ins c' fs =>
      obtain ⟨a, C', dx, ks, e, q1, q2, q3⟩ := p2
      cases e
      exact ⟨c', fs, C', dx, ks, rfl, q1, q2, q3⟩
  have key : Ans R T (ρ ++ [[n + 1]]) (upd (upd H n (.own (n + 1))) (n + 1) (.ins C n [])) (F0 (Γ.sub loc) (.box g.bx.length :: ds) ⟨g.bx ++ [.ins c []]⟩)
      (fun v H3 => v = .non ∧ ∃ (C' dx : Addr) (ks : List (Str × V)), H3 (n + 1) = some (.ins C' dx ks) ∧ ∀ o : Obj, Q (.ref (n + 1)) (upd H3 (n + 1) (.frz o (.ins C' dx ks)))) (fun c dx H' => W c dx σ H') := by
    unfold mkR at q
    cases eF : F0 (Γ.sub loc) (.box g.bx.length :: ds) ⟨g.bx ++ [.ins c []]⟩ with
    | bad => rw [eF] at q; exact q
    | ex c2 fs g' =>
      rw [eF] at q
      dsimp only at q
      by_cases hnb : noBoxF fs = true
      case neg => rw [if_neg hnb] at q; exact q.elim
      rw [if_pos hnb] at q
      unfold unbox at q
      by_cases hc : (decide (g'.bx.length = g.bx.length + 1) && boxFlat g'.bx) = true
      case neg => rw [if_neg hc] at q; exact q.elim
      rw [if_pos hc] at q
      simp only [Bool.and_eq_true, decide_eq_true_eq] at hc
      cases hlast : g'.bx.getLast? with
      | none => rw [hlast] at q; exact q.elim
      | some ob =>
        rw [hlast] at q
        intro ρ3 C3 dx3 H3 st hm hx
        obtain ⟨rfl, c', fs', C', dx, ks, rfl, p1, p2, p3⟩ := lastBox st hc.1 hlast
        have un := unbox_ok (H4 := H3) S.gr nx st nd (by rw [hc.1, S.gr.len]) hc.2 p1 (fun _ _ => rfl) (Ext.refl _)
        refine q ρ C3 dx3 H3 un hm ?_
        cases dx3 with
        | none => exact hx
        | some d3 =>
          obtain ⟨ks3, x1, x2⟩ := hx
          exact ⟨ks3, x1, RepF.flat hnb x2⟩
    | ok own d g' =>
      rw [eF] at q
      cases own with
      | true => exact q.elim
      | false =>
        cases d <;> first | exact q.elim | skip
        dsimp only at q
        unfold unbox at q
        by_cases hc : (decide (g'.bx.length = g.bx.length + 1) && boxFlat g'.bx) = true
        case neg => rw [if_neg hc] at q; exact q.elim
        rw [if_pos hc] at q
        simp only [Bool.and_eq_true, decide_eq_true_eq] at hc
        cases hlast : g'.bx.getLast? with
        | none => rw [hlast] at q; exact q.elim
        | some ob =>
          rw [hlast] at q
          intro ρ3 v H3 st rv3 _
          obtain ⟨rfl, c', fs', C', dx, ks, rfl, p1, p2, p3⟩ := lastBox st hc.1 hlast
          dsimp only at q
          have rv3' : Rep R (ρ ++ [[n + 1]]) H3 .non v := rv3
          cases rv3'
          refine ⟨rfl, C', dx, ks, p1, fun o => ?_⟩
          have ee : Ext H3 (upd H3 (n + 1) (.frz o (.ins C' dx ks))) := Ext.mut p1 rfl
          have un := unbox_ok (H4 := upd H3 (n + 1) (.frz o (.ins C' dx ks))) S.gr nx st nd (by rw [hc.1, S.gr.len]) hc.2 p1 (fun b hb => upd_ne hb) ee
          refine q ρ (.ref (n + 1)) _ un (Rep.ins upd_same p2 (RepF.flat ?_ (RepF.ext (RExt.refl _) ee p3))) fun z => by cases z
          -- the last box is one of them
          have mem : Ob.ins c' fs' ∈ g'.bx := List.mem_of_getLast? hlast
          have flat : ∀ (l : List Ob), boxFlat l = true → Ob.ins c' fs' ∈ l → noBoxF fs' = true := by
            intro l
            induction l with
            | nil => intro _ h; cases h
            | cons ob r ih =>
              intro h hm
              cases ob with
              | drw a b c2 d =>
                rcases List.mem_cons.mp hm with e | hm
                · cases e
                · exact ih h hm
              | ins c2 fs2 =>
                simp only [boxFlat, Bool.and_eq_true] at h
                rcases List.mem_cons.mp hm with e | hm
                · cases e; exact h.1
                · exact ih h.2 hm
          exact flat _ hc.2 mem
  have r := fa.run (X.A.under (.builtin "type.__call__" ⟨.ref C :: us, []⟩)) X.stack _ _ ⟨.ref (n + 1) :: us, []⟩ (.ref (n + 1) :: us) (.ref (n + 1) :: vs) _ _ _ (Γ.sub loc) _ (fun c dx H' => W c dx σ H') (hroom.make C us []) (make_guards cx.gx.ga) e0 (.of_eq (fa.bind _ hu)) rv2 G2 rr2 (by simp [hl]) (cx.clo pins _ σ _ _ loc _ I2 S2) key
  rw [← cx.gx.prog, ← cx.gx.w] at r
  subst hn
  refine wpAny_call (make_map (f := f) I.kIn M'.makes M'.init (beq_iff_eq.mp M'.fn) (codeAny_mono r fun r s' hq => ?_))
  cases r with
  | error e => exact passAt tk σ pins _ _ e s' I2 hq
  | ok fl =>
    cases fl with
    | ret u =>
      obtain ⟨v, H3, I3, rv3, ev, C', dx, ks, p1, q3⟩ := I2.after hq
      subst ev
      obtain ⟨o, J⟩ := Inv.frz I3 p1 trivial
      exact ⟨rv3, ⟨.ref (s.heap.objs.size + 1), _, J, rfl, q3 o⟩⟩
    | next => exact False.elim hq
    | brk => exact False.elim hq
    | cont => exact False.elim hq
/-- C(e, ..) -/
theorem SndE.mk {k : Nat} {x c : Str} {ps : List Str} {F0 : CloT → List D → G → Res} {e : Expr} {es : List Expr} {t : E} {ts : List E} {p pos : Pos} (m : MkS R T k x c ps F0) (hF : Γ.mkc x = mkR c F0) (hk : k + 1 ≤ cc.k) (hlen : (t :: ts).length = ps.length) (hg : globB cc x = true) (ha : SndA R T cc Γ (e :: es) (t :: ts))
    (he : ∀ env, starEach (e :: es) env = (false, eval e env) :: starEach es env := by intro _; rfl) (hpl : ∀ env, (backTo pos (starEach es env)).any (·.1) = false := by intro _; rfl) : SndE R T cc Γ (.Call (.Name x p) (e :: es) [] pos) (.mk x (t :: ts) []) := fun X W cx tk => by
  obtain ⟨C, f, fd, s0, hm, hc, M, _, fa⟩ := m.ex
  obtain ⟨h1, h2, h3⟩ := globB_ok cx hg
  refine ⟨fun pins s σ H Q I h => ?_⟩
  have h' : rdE R T W (fun loc g => (denA Γ (t :: ts) loc g).call fun ds g1 => mkR c F0 (Γ.sub loc) ds g1) σ H Q := by
    obtain ⟨ρ, loc, g, S, q⟩ := h
    unfold den at q
    rw [hF] at q
    exact ⟨ρ, loc, g, S, q⟩
  have h'' := rdA_callL (k := fun loc ds g1 => mkR c F0 (Γ.sub loc) ds g1) h'
  refine wpAny_Call_Name_kw (ld_glob I h1 (by rw [cx.gx.mg]; exact hm) ?_ h2)
  refine PySem.W.callWith_K (h₀ := X.base) I.ok.mod.kin (by rw [cx.gx.K]; exact M.kp) (thn ((ha X W cx tk).run pos pins s σ H _ I h'') fun us s1 ⟨vs, H1, I1, r, ρ1, loc, ds, g1, hl, rr, S1, q⟩ => ⟨I1.kIn, ?_⟩) (he X.env) (hpl X.env)
  exact mk_run cx tk m hk hm I1 S1 r rr (hl.trans hlen) q
end
end PyD
end
section
set_option Elab.async false
set_option linter.all false
set_option maxRecDepth 100000
set_option maxHeartbeats 2000000
namespace PyD
open PySem PySem.Spec PyProof.Rows L2
section
variable {X : Cx}
def rPopI : V → List V → Hp → VK → Prop := fun x vs H Q => ∃ l xs i k y, x = .ref l ∧ vs = [.int i] ∧ H l = some (.lst xs) ∧ ixN xs.length i = some k ∧ xs[k]? = some y ∧ Q y (upd H l (.lst (xs.eraseIdx k)))
theorem mt_popI : MtM X "list.pop" rPopI := fun pins s σ H x vs v us Q I rx rv ⟨l, xs, i, k, y, e1, e2, hH, hk, hy, q⟩ => by
  obtain ⟨z, _⟩ := I.lstM hH
  obtain ⟨h1, h2, h3, h4⟩ := ixN_seq hk
  have hs : sizeLine < 2 ^ 62 := by rw [sizeLine_eq]; decide
  exact mt_popAt pins s σ H x vs v us Q I rx rv ⟨l, xs, i, k, y, e1, e2, hH, by omega, by omega, h1, hy, q⟩
end
section
variable {R : RC} {T : Tab} {cc : CC} {Γ : Env'} {ρ0 ρ ρ1 : List (List Addr)} {H0 H H1 : Hp} {loc : Loc} {g g1 : G} {σ : St} {W : WX} {Z : Ends}
theorem Reps.eraseIdx : ∀ {ds : List PyD.D} {vs : List V} (n : Nat), Reps R ρ H ds vs → Reps R ρ H (ds.eraseIdx n) (vs.eraseIdx n)
  | _, _, _, .nil => .nil
  | _, _, 0, .cons h t => t
  | _, _, n + 1, .cons h t => .cons h (Reps.eraseIdx n t)
theorem Reps.dropLast : ∀ {ds : List PyD.D} {vs : List V}, Reps R ρ H ds vs → Reps R ρ H ds.dropLast vs.dropLast
  | _, _, .nil => .nil
  | _, _, .cons h .nil => .nil
  | _, _, .cons h (.cons h2 t) => .cons h (Reps.dropLast (.cons h2 t))
def popS (l ds : List PyD.D) : Option (PyD.D × List PyD.D) := popD l ds
def mutS (m : String) (l ds : List PyD.D) : Option (PyD.D × List PyD.D) := (mutD m l ds).map fun l' => (.non, l')
theorem rdA_mono {f : Loc → G → ResA} {Q Q' : List V → Hp → Prop} (h : rdA R T W f σ H Q) (q : ∀ vs H', Q vs H' → Q' vs H') : rdA R T W f σ H Q' := by
  obtain ⟨ρ, loc, g, S, a⟩ := h
  refine ⟨ρ, loc, g, S, ?_⟩
  cases e : f loc g with
  | bad => rw [e] at a; exact a
  | ex c fs g' => rw [e] at a; exact a
  | ok ds g1 => rw [e] at a; exact fun ρ' vs H' h1 h2 => q vs H' (a ρ' vs H' h1 h2)
theorem ArgsAt.length : ∀ {as : List Arg} {vs : List V}, ArgsAt R ρ H σ as vs → as.length = vs.length
  | _, _, .nil => rfl
  | _, _, .cons h t => by simp [ArgsAt.length t]
/-- a method that writes the list of ours in slot i -/
def tMut (R : RC) (T : Tab) (Γ : Env') (W : WX) (i : Nat) (ts : List E) (sem : List PyD.D → List PyD.D → Option (PyD.D × List PyD.D)) : TE := fun σ H Q => ∃ ρ loc g l, SR R T ρ H loc g σ ∧ loc[i]? = some (some (true, .lst l)) ∧ match denA Γ ts loc g with
  | .ok as g1 => ∃ ds d l', valsOf loc as = some ds ∧ sem l ds = some (d, l') ∧ ∀ ρ1 H1 a vs vs' v, Stp R T ρ ρ1 H H1 g1 → σ[i]? = some (some (V.ref a)) → H1 a = some (.lst vs) → Reps R ρ1 H1 l vs → Reps R ρ1 H1 l' vs' → Rep R ρ1 H1 d v → Q v (upd H1 a (.lst vs'))
  | .ex c fs g' => ∀ ρ' C dx H', Stp R T ρ ρ' H H' g' → R.mg c = some (.ref C) → ExcAt R ρ' H' dx fs → W (.ref C) dx σ H'
  | .bad => False
theorem tMut_mono {i : Nat} {ts : List E} {sem : List PyD.D → List PyD.D → Option (PyD.D × List PyD.D)} {Q Q' : VK} (h : tMut R T Γ W i ts sem σ H Q) (q : ∀ v H', Q v H' → Q' v H') : tMut R T Γ W i ts sem σ H Q' := by
  obtain ⟨ρ, loc, g, l, S, hl, a⟩ := h
  refine ⟨ρ, loc, g, l, S, hl, ?_⟩
  cases e : denA Γ ts loc g with
  | bad => rw [e] at a; exact a
  | ex c fs g' => rw [e] at a; exact a
  | ok as g1 =>
    rw [e] at a
    obtain ⟨ds, d, l', e1, e2, a⟩ := a
    exact ⟨ds, d, l', e1, e2, fun ρ1 H1 b vs vs' v h1 h2 h3 h4 h5 h6 => q v _ (a ρ1 H1 b vs vs' v h1 h2 h3 h4 h5 h6)⟩
theorem tMut_arg {i : Nat} {ts : List E} {sem : List PyD.D → List PyD.D → Option (PyD.D × List PyD.D)} {Q : VK} (h : tMut R T Γ W i ts sem σ H Q) : ∃ a vs, σ[i]? = some (some (V.ref a)) ∧ H a = some (.lst vs) ∧
    rdA R T W (denA Γ ts) σ H fun us H1 => ∃ ρ1 vs l ds d l', us.length = ts.length ∧ H1 a = some (.lst vs) ∧ Reps R ρ1 H1 l vs ∧ RepBs R ρ1 H1 ds us ∧ sem l ds = some (d, l') ∧ ∀ v vs', Reps R ρ1 H1 l' vs' → Rep R ρ1 H1 d v → Q v (upd H1 a (.lst vs')) := by
  obtain ⟨ρ, loc, g, l, S, hl, q⟩ := h
  obtain ⟨a, vs, s1, s2, s3, s4⟩ := S.ownA hl
  refine ⟨a, vs, s1, s2, ρ, loc, g, S, ?_⟩
  cases e : denA Γ ts loc g with
  | bad => rw [e] at q; exact q
  | ex c fs g' => rw [e] at q; exact q
  | ok as g1 =>
    rw [e] at q
    obtain ⟨ds, d, l', e1, e2, q⟩ := q
    intro ρ1 us H1 st av
    have S1 := st.sr S
    obtain ⟨a', vs1, p1, p2, p3, p4⟩ := S1.ownA hl
    rw [s1] at p1; cases p1
    exact ⟨ρ1, vs1, l, ds, d, l', by rw [← av.length, denA_len e], p2, p3, args_val S1 av e1, e2, fun v vs' r1 r2 => q ρ1 H1 a vs1 vs' v st s1 p2 p3 r1 r2⟩
/-- such a call, with the list's name -/
def SndM (R : RC) (T : Tab) (cc : CC) (Γ : Env') (e : Expr) (i : Nat) (ts : List E) (sem : List PyD.D → List PyD.D → Option (PyD.D × List PyD.D)) : Prop := ∀ (X : Cx) (W : WX), CtxOk R T X cc Γ → Takes X W → PE X e (tMut R T Γ W i ts sem)
theorem few1 {e : Expr} {env : Env} {cp : Pos} (hs : starEach [e] env = (false, eval e env) :: starEach [] env) : ((backTo cp (starEach [e] env)).all (fun x => !x.1) && (backToKw cp (keywordEach [] env)).all (fun x => x.1.isSome) && decide ([e].length + ([] : List Keyword).length + (if ([] : List Keyword).isEmpty then 0 else 1) < 30)) = true := by
  rw [hs]; rfl
theorem SndM.pop1 {x : Str} {i : Nat} {e : Expr} {te : E} {p ap cp : Pos} (hx : slotB cc i x = true) (he : SndA R T cc Γ [e] [te]) (hbase : ∀ env, attributeBase (.Name x p) "pop" env (eval (.Name x p) env) = eval (.Name x p) env := by intro _; rfl)
    (hline : (ap.endLine == cp.line) = true := by rfl) (hs : ∀ env, starEach [e] env = (false, eval e env) :: starEach [] env := by intro _; rfl) : SndM R T cc Γ (.Call (.Attribute (.Name x p) "pop" ap) [e] [] cp) i [te] popS := fun X W c tk => by
  obtain ⟨n1, n2, n3, n4⟩ := slotB_ok c hx
  refine PE.imp (pe_bm F.plainAttrs_list F.slot_list_pop F.type_list_pop mt_popI (pe_var n1 n2 n3 n4) (he X W c tk) (hbase X.env) (few1 (hs X.env)) hline (hs X.env) rfl) fun σ H Q h => ?_
  obtain ⟨a, vs, s1, s2, q⟩ := tMut_arg h
  refine ⟨.ref a, s1, .inl ⟨rfl, vs, .inl (.inl s2)⟩, ?_⟩
  refine rdA_mono q fun us H1 ⟨ρ1, vs1, l, ds, d, l', hlen, p2, p3, rb, e2, q⟩ => ?_
  cases rb with
  | nil => cases hlen
  | @cons d1 v1 ds1 us1 r1 rb =>
    cases rb with
    | @cons d2 v2 ds2 us2 r2 rb => cases hlen
    | nil =>
      cases d1 <;> simp only [popS, popD] at e2 <;> first | (cases e2; done) | skip
      rename_i k
      cases e3 : ixOf l.length k with
      | none => rw [e3] at e2; cases e2
      | some n =>
        rw [e3] at e2
        dsimp only at e2
        cases e4 : l[n]? with
        | none => rw [e4] at e2; cases e2
        | some y =>
          rw [e4] at e2
          cases e2
          obtain ⟨w, hw, rw'⟩ := p3.get e4
          exact ⟨a, vs1, k, n, w, rfl, by rw [r1.int], p2, by rw [← p3.length]; exact e3, hw, q w _ (p3.eraseIdx n) rw'⟩
theorem SndM.pop0 {x : Str} {i : Nat} {p ap cp : Pos} (hx : slotB cc i x = true) (hbase : ∀ env, attributeBase (.Name x p) "pop" env (eval (.Name x p) env) = eval (.Name x p) env := by intro _; rfl)
    (hline : (ap.endLine == cp.line) = true := by rfl) : SndM R T cc Γ (.Call (.Attribute (.Name x p) "pop" ap) [] [] cp) i [] popS := fun X W c tk => by
  obtain ⟨n1, n2, n3, n4⟩ := slotB_ok c hx
  refine PE.imp (pe_bm0 F.plainAttrs_list F.slot_list_pop F.type_list_pop mt_pop (pe_var n1 n2 n3 n4) (hbase X.env) hline) fun σ H Q h => ?_
  obtain ⟨ρ, loc, g, l, S, hl, q⟩ := h
  obtain ⟨a, vs, s1, s2, s3, s4⟩ := S.ownA hl
  refine ⟨.ref a, s1, .inl ⟨rfl, vs, .inl (.inl s2)⟩, ?_⟩
  unfold denA at q
  obtain ⟨ds, d, l', e1, e2, q⟩ := q
  cases e1
  simp only [popS, popD] at e2
  cases e4 : l.getLast? with
  | none => rw [e4] at e2; cases e2
  | some y =>
    rw [e4] at e2
    cases e2
    obtain ⟨w, hw, rw'⟩ := s3.get (by rw [← List.getLast?_eq_getElem?]; exact e4)
    rw [s3.length] at hw
    exact ⟨a, vs, w, rfl, rfl, s2, hw, q ρ H a vs _ w (Stp.refl S.gr) s1 s2 s3 s3.dropLast rw'⟩
theorem SndM.rev {x : Str} {i : Nat} {p ap cp : Pos} (hx : slotB cc i x = true) (hbase : ∀ env, attributeBase (.Name x p) "reverse" env (eval (.Name x p) env) = eval (.Name x p) env := by intro _; rfl)
    (hline : (ap.endLine == cp.line) = true := by rfl) : SndM R T cc Γ (.Call (.Attribute (.Name x p) "reverse" ap) [] [] cp) i [] (mutS "reverse") := fun X W c tk => by
  obtain ⟨n1, n2, n3, n4⟩ := slotB_ok c hx
  refine PE.imp (pe_bm0 F.plainAttrs_list F.slot_list_reverse F.type_list_reverse mt_reverse (pe_var n1 n2 n3 n4) (hbase X.env) hline) fun σ H Q h => ?_
  obtain ⟨ρ, loc, g, l, S, hl, q⟩ := h
  obtain ⟨a, vs, s1, s2, s3, s4⟩ := S.ownA hl
  refine ⟨.ref a, s1, .inl ⟨rfl, vs, .inl (.inl s2)⟩, ?_⟩
  unfold denA at q
  obtain ⟨ds, d, l', e1, e2, q⟩ := q
  cases e1
  simp only [mutS, mutD, Option.map] at e2
  cases e2
  exact ⟨a, vs, rfl, rfl, s2, q ρ H a vs _ .non (Stp.refl S.gr) s1 s2 s3 s3.reverse .non⟩
theorem SndM.clear {x : Str} {i : Nat} {p ap cp : Pos} (hx : slotB cc i x = true) (hbase : ∀ env, attributeBase (.Name x p) "clear" env (eval (.Name x p) env) = eval (.Name x p) env := by intro _; rfl)
    (hline : (ap.endLine == cp.line) = true := by rfl) : SndM R T cc Γ (.Call (.Attribute (.Name x p) "clear" ap) [] [] cp) i [] (mutS "clear") := fun X W c tk => by
  obtain ⟨n1, n2, n3, n4⟩ := slotB_ok c hx
  refine PE.imp (pe_bm0 F.plainAttrs_list F.slot_list_clear F.type_list_clear mt_clear (pe_var n1 n2 n3 n4) (hbase X.env) hline) fun σ H Q h => ?_
  obtain ⟨ρ, loc, g, l, S, hl, q⟩ := h
  obtain ⟨a, vs, s1, s2, s3, s4⟩ := S.ownA hl
  refine ⟨.ref a, s1, .inl ⟨rfl, vs, .inl (.inl s2)⟩, ?_⟩
  unfold denA at q
  obtain ⟨ds, d, l', e1, e2, q⟩ := q
  cases e1
  simp only [mutS, mutD, Option.map] at e2
  cases e2
  exact ⟨a, vs, rfl, rfl, s2, q ρ H a vs _ .non (Stp.refl S.gr) s1 s2 s3 .nil .non⟩
/-- what stands behind it -/
theorem tMut_of {i : Nat} {ts : List E} {sem : List PyD.D → List PyD.D → Option (PyD.D × List PyD.D)} {k : Loc → List PyD.D → PyD.D → List PyD.D → G → ResS} {ρ0 : List (List Addr)} {H0 : Hp}
    (h : rdS R T ρ0 H0 W (fun loc g => match ownL loc i with
      | some l => (denA Γ ts loc g).st loc fun ds g1 => match sem l ds with | some (d, l') => k loc l d l' g1 | none => .bad
      | none => .bad) Z σ H) :
    tMut R T Γ W i ts sem σ H fun v H2 => ∃ ρ1 loc g1 l d l', loc[i]? = some (some (true, .lst l)) ∧ SR R T ρ1 H2 (setL loc i l') g1 σ ∧ Stp R T ρ0 ρ1 H0 H2 g1 ∧ Fresh H0 (setL loc i l') σ ∧ Rep R ρ1 H2 d v ∧ AnsS R T ρ0 H0 ρ1 H2 W (k loc l d l' g1) Z := by
  obtain ⟨ρ, loc, g, S, st, fr, q⟩ := h
  dsimp only at q
  cases ho : ownL loc i with
  | none => rw [ho] at q; exact q.elim
  | some l =>
    rw [ho] at q
    dsimp only at q
    have hl := ownL_at ho
    refine ⟨ρ, loc, g, l, S, hl, ?_⟩
    cases e : denA Γ ts loc g with
    | bad => rw [e] at q; exact q
    | ex c fs g' =>
      rw [e] at q
      exact fun ρ' C dx H' st' hm hx => q ρ' C dx σ H' (st.trans st') hm hx
    | ok as g1 =>
      rw [e] at q
      dsimp only [ResA.st] at q
      cases e1 : valsOf loc as with
      | none => rw [e1] at q; exact q.elim
      | some ds =>
        rw [e1] at q
        dsimp only at q
        cases e2 : sem l ds with
        | none => rw [e2] at q; exact q.elim
        | some p =>
          obtain ⟨d, l'⟩ := p
          rw [e2] at q
          refine ⟨ds, d, l', e1, e2, fun ρ1 H1 a vs vs' v st1 s1 p2 p3 r1 r2 => ?_⟩
          have S1 := st1.sr S
          obtain ⟨S2, ee⟩ := S1.writeL hl s1 p2 r1
          refine ⟨ρ1, loc, g1, l, d, l', hl, S2, (st.trans st1).put (fr i _ a hl s1) p2 rfl (fun ps z => by cases z) (S1.off i _ a hl s1), fr.setL hl, Rep.ext (RExt.refl _) ee r2, AnsS.step ((st1.ext S.gr).trans ee) st1.n.1 q⟩
theorem SndS.mut {e : Expr} {i : Nat} {ts : List E} {m : String} {pos : Pos} (h : SndM R T cc Γ e i ts (mutS m)) (hs : ∀ env, swapsWith e none pos.line env = pure false := by intro _; rfl) : SndS R T cc Γ (.Expr e pos) (.mut i m ts) := fun X W ρ0 H0 c tp ns tk hp => by
  refine PS.imp (ps_expr (h X W c tk) (hs X.env)) fun D σ H h => ?_
  have h2 := tMut_of (k := fun loc l d l' g1 => .nx (setL loc i l') g1) (i := i) (ts := ts) (sem := mutS m) (Γ := Γ) (R := R) (T := T) (W := W) (ρ0 := ρ0) (H0 := H0) (Z := D) (σ := σ) (H := H) (by
    obtain ⟨ρ, loc, g, S, st, fr, q⟩ := h
    refine ⟨ρ, loc, g, S, st, fr, ?_⟩
    simp only [exe] at q
    cases ho : ownL loc i with
    | none => rw [ho] at q; exact q.elim
    | some l =>
      rw [ho] at q
      simp only [ho]
      dsimp only at q ⊢
      cases e : denA Γ ts loc g with
      | bad => rw [e] at q; exact q
      | ex c fs g' => rw [e] at q; exact q
      | ok as g1 =>
        rw [e] at q
        dsimp only [ResA.st] at q ⊢
        cases e1 : valsOf loc as with
        | none => rw [e1] at q; exact q.elim
        | some ds =>
          rw [e1] at q
          dsimp only at q ⊢
          unfold mutS
          cases e2 : mutD m l ds with
          | none => rw [e2] at q; exact q.elim
          | some l' => rw [e2] at q; exact q)
  exact tMut_mono h2 fun v H1 ⟨ρ1, loc, g1, l, d, l', hl, S, st, fr, r, q⟩ => q.nx_ok S st fr
theorem SndS.pop {tg e : Expr} {t : PyD.T} {i : Nat} {ts : List E} {pos : Pos} (hb : SndB R T cc Γ tg t) (h : SndM R T cc Γ e i ts popS) (hs : ∀ env, swapsWithSole [tg] e pos.line env = pure false := by intro _; rfl) (hw : ∀ env, swappedStores [tg] e env = pure none := by intro _; rfl)
    (h1 : ∀ env, (assignEach [tg] env).map (·.2) = [assign tg env] := by intro _; rfl) : SndS R T cc Γ (.Assign [tg] e pos) (.pop t i ts) := fun X W ρ0 H0 c tp ns tk hp => by
  refine PS.imp (ps_asg (h X W c tk) (hb X c) (hs X.env) (hw X.env) (h1 X.env)) fun D σ H h => ?_
  have h2 := tMut_of (k := fun loc l d l' g1 => match bindT t d (setL loc i l') with | some l2 => .nx l2 g1 | none => .bad) (i := i) (ts := ts) (sem := popS) (Γ := Γ) (R := R) (T := T) (W := W) (ρ0 := ρ0) (H0 := H0) (Z := D) (σ := σ) (H := H) (by
    obtain ⟨ρ, loc, g, S, st, fr, q⟩ := h
    simp only [exe] at q
    exact ⟨ρ, loc, g, S, st, fr, q⟩)
  refine tMut_mono h2 fun v H1 ⟨ρ1, loc, g1, l, d, l', hl, S, st, fr, r, q⟩ => ?_
  cases eb : bindT t d (setL loc i l') with
  | none => rw [eb] at q; exact q.elim
  | some l2 =>
    rw [eb] at q
    exact ⟨ρ1, _, g1, d, l2, S, r, eb, fun σ' S' A => q.nx_ok S' st (fr.bind eb A)⟩
end
end PyD
end
section
set_option Elab.async false
set_option linter.all false
set_option maxRecDepth 100000
set_option maxHeartbeats 2000000
namespace PyD
open PySem PySem.Spec PyProof.Rows L2
section
variable {R : RC} {T : Tab} {cc : CC} {Γ : Env'} {ρ0 ρ ρ1 : List (List Addr)} {H0 H H1 : Hp} {loc : Loc} {g g1 : G} {σ : St} {W : WX} {Z : Ends}
theorem SndS.apop {x : Str} {i j : Nat} {e : Expr} {ts : List E} {p ap cp pos : Pos} (hx : slotB cc j x = true) (h : SndM R T cc Γ e i ts popS) (hbase : ∀ env, attributeBase (.Name x p) "append" env (eval (.Name x p) env) = eval (.Name x p) env := by intro _; rfl)
    (hline : (ap.endLine == cp.line) = true := by rfl) (hs : ∀ env, starEach [e] env = (false, eval e env) :: starEach [] env := by intro _; rfl) (hsw : ∀ env, swapsWith (.Call (.Attribute (.Name x p) "append" ap) [e] [] cp) none pos.line env = pure false := by intro _; rfl) :
    SndS R T cc Γ (.Expr (.Call (.Attribute (.Name x p) "append" ap) [e] [] cp) pos) (.apop j i ts) := fun X W ρ0 H0 c tp ns tk hp => by
  obtain ⟨n1, n2, n3, n4⟩ := slotB_ok c hx
  refine PS.imp (ps_expr (pe_bm F.plainAttrs_list F.slot_list_append F.type_list_append mt_append (pe_var n1 n2 n3 n4) (pa_cons (h X W c tk) pa_nil (hs X.env)) (hbase X.env) (few1 (hs X.env)) hline (hs X.env) rfl) (hsw X.env)) fun D σ H ⟨ρ, loc, g, S, st, fr, q⟩ => ?_
  simp only [exe] at q
  cases hi : ownL loc i with
  | none => rw [hi] at q; exact q.elim
  | some l =>
    cases hj : ownL loc j with
    | none => rw [hi, hj] at q; exact q.elim
    | some m =>
      rw [hi, hj] at q
      dsimp only at q
      have hm := ownL_at hj
      obtain ⟨b, ws, s1, s2, s3, s4⟩ := S.ownA hm
      refine ⟨.ref b, s1, .inl ⟨rfl, ws, .inl (.inl s2)⟩, ?_⟩
      have h2 := tMut_of (k := fun loc l d l' g1 => match ownL loc j with
          | some m => if j = i then .bad else if decide (m.length < sizeLine) then .nx (setL (setL loc i l') j (m ++ [d])) g1 else .bad
          | none => .bad) (i := i) (ts := ts) (sem := popS) (Γ := Γ) (R := R) (T := T) (W := W) (ρ0 := ρ0) (H0 := H0) (Z := D) (σ := σ) (H := H) (by
        refine ⟨ρ, loc, g, S, st, fr, ?_⟩
        simp only [hi, hj]
        exact q)
      refine tMut_mono h2 fun v H2 ⟨ρ1, loc1, g1, l1, d, l', hl1, S1, st1, fr1, r, q1⟩ => ?_
      cases hj1 : ownL loc1 j with
      | none => rw [hj1] at q1; exact q1.elim
      | some m1 =>
        rw [hj1] at q1
        dsimp only at q1
        by_cases hji : j = i
        · rw [if_pos hji] at q1; exact q1.elim
        · rw [if_neg hji] at q1
          by_cases hz : m1.length < sizeLine
          case neg => rw [if_neg (by simpa using hz)] at q1; exact q1.elim
          rw [if_pos (by simpa using hz)] at q1
          have hm1 : (setL loc1 i l')[j]? = some (some (true, .lst m1)) := by
            unfold setL
            rw [List.getElem?_set_ne (Ne.symm hji)]
            exact ownL_at hj1
          obtain ⟨a', vs', p1, p2, p3, p4⟩ := S1.ownA hm1
          rw [s1] at p1; cases p1
          exact ⟨b, vs', v, rfl, rfl, p2, by rw [← p3.length]; exact hz, q1.wr S1 st1 fr1 hm1 s1 p2 (p3.append (.cons r .nil))⟩

def frzD (ds : List PyD.D) : List (Bool × PyD.D) := ds.map fun d => (false, d)
def rdTs (R : RC) (T : Tab) (Γ : Env') (ρ0 : List (List Addr)) (H0 : Hp) (W : WX) (ts : List TG') : TGs := fun vs σ H Q => ∃ ρ loc g ds Z, SR R T ρ H loc g σ ∧ Stp R T ρ0 ρ H0 H g ∧ Fresh H0 loc σ ∧ Reps R ρ H ds vs ∧ (∀ σ' H', Z.nx σ' H' → Q σ' H') ∧ AnsS R T ρ0 H0 ρ H W (storeG Γ ts (frzD ds) loc g) Z
def SndTs (R : RC) (T : Tab) (cc : CC) (Γ : Env') (tg : List Expr) (ts : List TG') : Prop := ∀ (X : Cx) (W : WX) (ρ0 : List (List Addr)) (H0 : Hp), CtxOk R T X cc Γ → NoSl W → Takes X W → PGs X tg (rdTs R T Γ ρ0 H0 W ts)
theorem SndTs.nil : SndTs R T cc Γ [] [] := fun X W ρ0 H0 c ns tk => PGs.imp pgs_nil fun vs σ H Q ⟨ρ, loc, g, ds, Z, S, st, fr, r, hz, q⟩ => by
  cases r with
  | nil =>
    simp only [frzD, List.map, storeG] at q
    exact ⟨rfl, hz _ _ (q.nx_ok S st fr)⟩
  | cons h t => simp only [frzD, List.map, storeG] at q; exact q.elim
theorem SndTs.cons {e : Expr} {es : List Expr} {t : PyD.T} {ts : List TG'} (hb : SndB R T cc Γ e t) (hr : SndTs R T cc Γ es ts) (hs : ∀ env, (assignEach (e :: es) env).map (·.2) = assign e env :: (assignEach es env).map (·.2) := by intro _; rfl) :
    SndTs R T cc Γ (e :: es) (.t t :: ts) := fun X W ρ0 H0 c ns tk => PGs.imp (pgs_cons (hb X c) (hr X W ρ0 H0 c ns tk) (hs X.env)) fun vs σ H Q ⟨ρ, loc, g, ds, Z, S, st, fr, r, hz, q⟩ => by
  cases r with
  | nil => simp only [frzD, List.map, storeG] at q; exact q.elim
  | @cons d v ds vs r rs =>
    simp only [frzD, List.map, storeG] at q
    cases eb : bindT t d loc with
    | none => rw [eb] at q; exact q.elim
    | some l =>
      rw [eb] at q
      exact ⟨v, vs, rfl, ρ, loc, g, d, l, S, r, eb, fun σ' S' A => ⟨ρ, l, g, ds, Z, S', st, fr.bind eb A, rs, hz, q⟩⟩
theorem SndTs.item {x : Str} {i : Nat} {ix : Expr} {tx : E} {p ps : Pos} {es : List Expr} {ts : List TG'} (hx : slotB cc i x = true) (hi : SndE R T cc Γ ix tx) (hr : SndTs R T cc Γ es ts)
    (ha : ∀ env v, assign (.Subscript (.Name x p) ix ps) env v = (do
      let ov ← holding [v] (eval (.Name x p) env)
      let iv ← holding [v, ov] (eval ix env)
      standAt ps
      holding [v, ov, iv] (setItem ov iv v)
      release [v, ov, iv] []) := by intro _ _; rfl)
    (hs : ∀ env, (assignEach (.Subscript (.Name x p) ix ps :: es) env).map (·.2) = assign (.Subscript (.Name x p) ix ps) env :: (assignEach es env).map (·.2) := by intro _; rfl) :
    SndTs R T cc Γ (.Subscript (.Name x p) ix ps :: es) (.p i tx :: ts) := fun X W ρ0 H0 c ns tk => by
  obtain ⟨n1, n2, n3, n4⟩ := slotB_ok c hx
  refine PGs.imp (pgs_cons (pg_sub (pe_var n1 n2 n3 n4) (pe_frz (hi X W c tk)) set_list (ha X.env)) (hr X W ρ0 H0 c ns tk) (hs X.env)) fun vs σ H Q ⟨ρ, loc, g, ds, Z, S, st, fr, r, hz, q⟩ => ?_
  cases r with
  | nil => simp only [frzD, List.map, storeG] at q; exact q.elim
  | @cons d v ds vs r rs =>
    simp only [frzD, List.map, storeG] at q
    cases ho : ownL loc i with
    | none => rw [ho] at q; exact q.elim
    | some l =>
      rw [ho] at q
      dsimp only at q
      have hl := ownL_at ho
      obtain ⟨a, ws, s1, s2, s3, s4⟩ := S.ownA hl
      refine ⟨v, vs, rfl, .ref a, s1, ρ, loc, g, S, ?_⟩
      dsimp only
      cases e2 : den Γ tx loc g with
      | bad => rw [e2] at q; exact q
      | ex c' fs g' =>
        rw [e2] at q
        exact fun ρ' C dx H' st' hm hx => q ρ' C dx σ H' (st.trans st') hm hx
      | ok own2 y g2 =>
        rw [e2] at q
        dsimp only [Res.st, Res.frz] at q ⊢
        intro ρ2 w H2 st2 rw' _
        have S2 := st2.sr S
        have e12 := st2.ext S.gr
        cases y <;> first | exact q.elim | skip
        rename_i k
        dsimp only at q
        cases e3 : ixOf l.length k with
        | none => rw [e3] at q; exact q.elim
        | some n =>
          rw [e3] at q
          obtain ⟨a', vs', p1, p2, p3, p4⟩ := S2.ownA hl
          rw [s1] at p1; cases p1
          have ew : w = .int k := rw'.b.int
          subst ew
          have rv2 := Rep.ext st2.n.1 e12 r
          obtain ⟨S3, e3'⟩ := S2.writeL hl s1 p2 (p3.set rv2 n)
          refine ⟨a, vs', k, n, rfl, rfl, p2, by rw [← p3.length]; exact e3, ρ2, setL loc i (l.set n d), g2, ds, Z, S3, ?_, fr.setL hl, Reps.ext st2.n.1 (e12.trans e3') rs, hz, AnsS.step (e12.trans e3') st2.n.1 q⟩
          exact (st.trans st2).put (fr i _ a hl s1) p2 rfl (fun ps z => by cases z) (S2.off i _ a hl s1)
/-- values that are for good -/
def noO (ts : List TG') : Bool := ts.all fun t => !isO t
theorem denO_frz : ∀ {ts : List TG'} {us : List E} {loc : Loc} {g g1 : G} {ds : List (Bool × PyD.D)}, noO ts = true → denO Γ ts us loc g = .ok ds g1 → ds = frzD (ds.map (·.2)) ∧ ds.length = ts.length
  | [], [], loc, g, g1, ds, _, h => by simp only [denO] at h; cases h; exact ⟨rfl, rfl⟩
  | [], _ :: _, loc, g, g1, ds, _, h => by simp only [denO] at h; cases h
  | _ :: _, [], loc, g, g1, ds, _, h => by simp only [denO] at h; cases h
  | t :: ts, u :: us, loc, g, g1, ds, ho, h => by
    simp only [noO, List.all_cons, Bool.and_eq_true, Bool.not_eq_true'] at ho
    simp only [denO, ho.1] at h
    cases e1 : (den Γ u loc g).keep false with
    | bad => rw [e1] at h; cases h
    | ex c fs g' => rw [e1] at h; cases h
    | ok own d g2 =>
      rw [e1] at h
      dsimp only at h
      have hown : own = false := by
        cases e0 : den Γ u loc g with
        | bad => rw [e0] at e1; cases e1
        | ex c fs g' => rw [e0] at e1; cases e1
        | ok o d' g' => rw [e0] at e1; cases e1; rfl
      cases e2 : denO Γ ts us loc g2 with
      | bad => rw [e2] at h; cases h
      | ex c fs g' => rw [e2] at h; cases h
      | ok ds' g3 =>
        rw [e2] at h
        cases h
        obtain ⟨h1, h2⟩ := denO_frz ho.2 e2
        refine ⟨?_, by simp [h2]⟩
        rw [hown]
        simp only [List.map_cons, frzD] at h1 ⊢
        rw [← h1]
theorem ValsO.reps : ∀ {ds : List (Bool × PyD.D)} {vs : List V}, ds = frzD (ds.map (·.2)) → ds.length = vs.length → (∀ (k : Nat) own d, ds[k]? = some (own, d) → ∃ v, vs[k]? = some v ∧ RepX R ρ H own d v) → Reps R ρ H (ds.map (·.2)) vs
  | [], [], _, _, _ => .nil
  | [], _ :: _, _, h, _ => by cases h
  | _ :: _, [], _, h, _ => by cases h
  | (own, d) :: ds, v :: vs, e, hl, h => by
    simp only [frzD, List.map_cons, List.cons.injEq, Prod.mk.injEq] at e
    obtain ⟨v', hv, r⟩ := h 0 own d rfl
    cases hv
    rw [e.1.1] at r
    exact .cons r (ValsO.reps (ds := ds) (vs := vs) e.2 (by simpa using hl) fun k ow dd hk => by simpa using h (k + 1) ow dd (by simpa using hk))
theorem SndS.parP {tg es : List Expr} {ts : List TG'} {us : List E} {pt pos : Pos} {kt k2 pt2} (hg : SndTs R T cc Γ tg ts) (ho : noO ts = true) (hl : ts.length = tg.length) (hz : tg.length ≤ 1000) (ha : SndO R T cc Γ es ts us)
    (hw : ∀ env : Env, env.scope = cc.sc → swappedStores [.Tuple tg kt pt] (.Tuple es k2 pt2) env = pure none)
    (hnn : ∀ env, (assignEach tg env).length = tg.length := by intro _; rfl) (hst : ∀ env, (assignEach tg env).findIdx? (·.1) = none := by intro _; rfl)
    (hs : ∀ env, swapsWithSole [.Tuple tg kt pt] (.Tuple es k2 pt2) pos.line env = pure false := by intro _; rfl)
    (h1 : ∀ env, (assignEach [.Tuple tg kt pt] env).map (·.2) = [assign (.Tuple tg kt pt) env] := by intro _; rfl) :
    SndS R T cc Γ (.Assign [.Tuple tg kt pt] (.Tuple es k2 pt2) pos) (.asgs ts us) := fun X W ρ0 H0 c tp ns tk hp => by
  refine PS.imp (ps_asg (pe_tup (ha X W ρ0 H0 c tk)) (pg_tup c.gx.calm (hg X W ρ0 H0 c ns tk) (hnn X.env) (hst X.env)) (hs X.env) (hw X.env c.sc) (h1 X.env)) fun D σ H ⟨ρ, loc, g, S, st, fr, q⟩ => ?_
  simp only [exe] at q
  refine ⟨ρ, loc, g, S, st, fr, ?_⟩
  cases e : denO Γ ts us loc g with
  | bad => rw [e] at q; exact q
  | ex c fs g' => rw [e] at q; exact fun ρ' C dx H' a b d => q ρ' C dx σ H' a b d
  | ok ds g1 =>
    rw [e] at q
    intro ρ1 vs H1 st1 VV nw
    obtain ⟨f1, f2⟩ := denO_frz ho e
    have hv : vs.length = tg.length := by rw [← VV.len, f2, hl]
    refine ⟨by rw [hv, sizeLine_eq]; omega, fun p hp => ⟨p, vs, rfl, .inl (.inl upd_same), hv, ?_⟩⟩
    have k : ∀ b o, H1 b = some o → upd H1 p (.tup vs) b = some o := upd_all hp
    have st2 : Stp R T ρ1 ρ1 H1 (upd H1 p (.tup vs)) g1 := Stp.all st1.x k
    have ee := st2.ext st1.x
    have rr := ValsO.reps f1 VV.len VV.rep
    refine ⟨ρ1, loc, g1, ds.map (·.2), D, st2.sr (st1.sr S), (st.trans st1).trans st2, fr, Reps.ext (RExt.refl _) ee rr, fun _ _ h => h, ?_⟩
    rw [← f1]
    exact AnsS.step ((st1.ext S.gr).trans ee) st1.n.1 q
/-- no name among them: no swap -/
theorem swap2_sub {a i t : Expr} {p : Pos} {k q v env} : swappedStores [.Tuple [.Subscript a i p, t] k q] v env = pure none := by
  unfold swappedStores
  cases v <;> first | rfl | skip
  simp only []
  split
  · rfl
  · split
    · rfl
    · refine if_pos ?_
      refine Bool.or_eq_true_iff.mpr (.inl ?_)
      rw [bne_iff_ne]
      intro z
      have : ∀ f : Expr → Option Str, f (.Subscript a i p) = none → (List.filterMap f [.Subscript a i p, t]).length = ([.Subscript a i p, t] : List Expr).length → False := fun f hf hz => by
        rw [List.filterMap_cons_none hf] at hz
        have := List.length_filterMap_le f [t]
        rw [hz] at this
        simp at this
      exact this _ rfl z
end
end PyD
end
section
set_option Elab.async false
set_option linter.all false
set_option maxRecDepth 100000
set_option maxHeartbeats 2000000
namespace PyD
open PySem PySem.Spec PyProof.Rows L2
section
variable {prog : Program} {w : World} {A : Around} {E : Value → Shared → Prop} {s : Shared}
theorem rev_adjust (n : Nat) : Builtin.Slice.sliceAdjust none none (-1) (n : Int) = ((n : Int) - 1, -1) := by
  unfold Builtin.Slice.sliceAdjust
  simp
theorem rev_places (n : Nat) : Builtin.Slice.slicePlaces ((n : Int) - 1) (-1) (-1) = n := by
  unfold Builtin.Slice.slicePlaces
  have h1 : ¬ ((-1 : Int) > 0) := by omega
  simp only [h1, if_false]
  split
  · rename_i h
    have e : (- -1 : Int) = 1 := by decide
    simp [e]
    try omega
  · rename_i h
    omega
theorem fm_congr {α β : Type} {f g : α → Option β} : ∀ {l : List α}, (∀ m ∈ l, f m = g m) → l.filterMap f = l.filterMap g
  | [], _ => rfl
  | x :: l, h => by
    rw [List.filterMap_cons, List.filterMap_cons, h x (.head _), fm_congr fun m hm => h m (.tail _ hm)]
theorem rev_pick (its : List Value) : ((List.range its.length).filterMap fun (m : Nat) => its.toArray[(((its.length : Int) - 1) + (m : Int) * (-1)).toNat]?).toArray = its.reverse.toArray := by
  congr 1
  have e : ∀ m ∈ List.range its.length, its.toArray[(((its.length : Int) - 1) + (m : Int) * (-1)).toNat]? = its.reverse[m]? := fun m hm => by
    have hm' := List.mem_range.mp hm
    have e1 : (((its.length : Int) - 1) + (m : Int) * (-1)).toNat = its.length - 1 - m := by omega
    rw [e1, List.getElem?_reverse hm']
    simp
  rw [fm_congr e]
  have e2 : its.reverse.length = its.length := List.length_reverse
  rw [← e2]
  generalize its.reverse = r
  induction r with
  | nil => rfl
  | cons x r ih =>
    rw [List.length_cons, List.range_succ_eq_map, List.filterMap_cons]
    simp only [List.getElem?_cons_zero, List.filterMap_map]
    congr 1
theorem rev_applied {sl : Addr} {ve : Value} {n : Nat} {Q : Int × Int × Nat → Shared → Prop} (hs : s.heap.IsSliceOf sl .none .none ve) (ps : IsPart ve (some (-1)))
    (h : Q ((n : Int) - 1, -1, n) s) : wpAny (model prog w) A (Builtin.Slice.sliceApplied (.ref sl) (pure (n : Int))) Q E s := by
  obtain ⟨ob, f1, f2, f3⟩ := id hs
  unfold Builtin.Slice.sliceApplied Builtin.Slice.sliceFields
  refine wpAny_bind (wpAny_bind (wpAny_field f1 f3 (x := .none) rfl (wpAny_bind (wpAny_field f1 f3 (x := .none) rfl (wpAny_bind (wpAny_field f1 f3 (x := ve) rfl (wpAny_pure ?_)))))))
  cases ps
  refine wpAny_bind (slicePart_int ?_)
  show wpAny _ _ (if ((-1 : Int) == 0) = true then _ else _) _ _ s
  rw [if_neg (by decide)]
  refine wpAny_bind (slicePart_none (wpAny_bind (slicePart_none (wpAny_bind (wpAny_pure ?_)))))
  show wpAny _ _ (match Builtin.Slice.sliceAdjust none none (-1) (n : Int) with | (lo, hi) => pure (lo, (-1 : Int), Builtin.Slice.slicePlaces lo hi (-1))) _ _ s
  rw [rev_adjust n]
  show wpAny _ _ (pure ((n : Int) - 1, (-1 : Int), Builtin.Slice.slicePlaces ((n : Int) - 1) (-1) (-1))) _ _ s
  rw [rev_places]
  exact wpAny_pure h
theorem tuple_rev {t sl : Addr} {its : List Value} {ve : Value} {Q : Value → Shared → Prop} (ht : IsTup s.heap t its.toArray) (hs : s.heap.IsSliceOf sl .none .none ve) (ps : IsPart ve (some (-1)))
    (h : Q (.ref s.heap.objs.size) { s with heap := s.heap.push { cls := .type "tuple", data := .seq its.reverse.toArray } }) (hz : its.length ≤ sizeLine) : wpAny (model prog w) A (getItem (.ref t) (.ref sl)) Q E s := by
  have small : sizeOk (.seq its.reverse.toArray) := by
    show its.reverse.toArray.size ≤ sizeLine
    rw [List.size_toArray, List.length_reverse]
    exact hz
  obtain ⟨ob, f1, f2, f3⟩ := id hs
  have isS : s.TypeIs (.ref sl) "slice" := ⟨ob, f1, f2⟩
  unfold getItem
  try with_reducible refine wpAny_holding ?_
  first | refine wpAny_bind (wpAny_pure ?_) | skip
  refine wpAny_bind (wpAny_sequenceKey ht.typeIs (by decide) ?_)
  refine wpAny_bind (wpAny_callSpecial?_slot (name := Str.ofString "__getitem__") ht.typeIs PyProof.Rows.slot_tuple_getitem (wpAny_call_entry PyProof.Rows.slot_tuple_getitem ht.typeIs entry_tuple_getitem ?_ (args_tuple_getitem _ _)))
  show wpAny _ _ (Builtin.Tuple.tupleItemsOf (.ref t) >>= _) _ _ s
  refine wpAny_bind (tupleItemsOf_ ht (wpAny_bind (wpAny_typeOf isS ?_)))
  rw [if_pos (by decide)]
  refine wpAny_bind (rev_applied (n := its.toArray.size) hs ps ?_)
  have no : ¬ (((its.toArray.size : Int) - 1 == 0 && (-1 : Int) == 1 && its.toArray.size == its.toArray.size) = true) := by
    intro q
    rw [Bool.and_eq_true, Bool.and_eq_true] at q
    exact absurd q.1.2 (by decide)
  show wpAny _ _ (if ((its.toArray.size : Int) - 1 == 0 && (-1 : Int) == 1 && its.toArray.size == its.toArray.size) = true then _ else _) _ _ s
  rw [if_neg no, List.size_toArray, rev_pick]
  first
    | exact wpAny_bind (m := Builtin.Tuple.tupleExact _) (wpAny_newObj_type (wpAny_pure ⟨_, rfl, wpAny_pure h⟩) small)
    | exact wpAny_bind (m := Builtin.Tuple.tupleExact _) (wpAny_newObj_type (wpAny_bind (wpAny_pure (wpAny_pure ⟨_, rfl, wpAny_pure h⟩))) small)
    | exact wpAny_bind (wpAny_bind (m := Builtin.Tuple.tupleExact _) (wpAny_newObj_type (wpAny_pure (wpAny_pure ⟨_, rfl, wpAny_pure h⟩)) small))
    | exact wpAny_bind (wpAny_bind (m := Builtin.Tuple.tupleExact _) (wpAny_newObj_type (wpAny_pure ⟨_, rfl, wpAny_pure h⟩) small))
end
section
variable {R : RC} {T : Tab} {X : Cx}
/-- e[::-1] -/
theorem pe_revD (gx : GX R X) {e : Expr} {te : TE} {k : Nat} {p1 p2 p3 pos : Pos} (he : PE X e te) : PE X (.Subscript e (.Slice none none (some (.UnaryOp .USub (.Constant (.int 1) k p1) p2)) p3) pos) (fun σ H Q => te σ H fun x H1 => rOp R T semR [x] H1 Q) := by
  refine ⟨fun pins s σ H Q I h => ?_⟩
  refine Subscript_ (thn (he.run pins s σ H _ I h) fun v s1 ⟨x, H1, I1, r1, q1⟩ => ?_)
  obtain ⟨ρ, g, ds, own, d, G, rb, se, q⟩ := q1
  have hst : PO X (some (.UnaryOp .USub (.Constant (.int 1) k p1) p2)) (tPart (tUn (rU fun i => .int (-i)) (tC (.int 1)))) := po_some (pe_un un_neg pe_int)
  refine wpAny_Slice (thn (po_none.run pins s1 σ H1 (fun o H2 => o = none ∧ H2 = H1) I1 ⟨rfl, rfl⟩) fun vl s2 ⟨l, H2, I2, pl, el, e2⟩ => ?_)
  subst el e2
  refine thn (po_none.run pins s2 σ H2 (fun o H3 => o = none ∧ H3 = H2) I2 ⟨rfl, rfl⟩) fun vu s3 ⟨u, H3, I3, pu, eu, e3⟩ => ?_
  subst eu e3
  refine thn (hst.run pins s3 σ H3 (fun o H4 => o = some (-1) ∧ H4 = H3) I3 ⟨1, rfl, -1, rfl, rfl, rfl⟩) fun ve s4 ⟨o, H4, I4, ps, eo, e4⟩ => ?_
  subst eo e4
  have I5 : Inv X pins σ H4 { s4 with heap := s4.heap.push { cls := .type "slice", data := .fields #[vl, vu, ve] } } := I4.kept (t' := s4.toks) fun b ob q => Heap.get?_push_of_some _ q
  cases pl
  cases pu
  cases rb with
  | @cons d1 v1 ds1 us1 r2 rb =>
    cases rb
    simp only [semR] at se
    cases d1 <;> simp only [revD] at se <;> first | (cases se; done) | skip
    · cases se
      obtain ⟨a, vs, rfl, hq, r⟩ := r2.tup
      cases r1
      obtain ⟨its, rv, ht, hz⟩ := I5.tuple (gx.K ▸ hq.seq)
      show wpAny (model X.prog X.w) X.A (subscriptTail e (.Slice none none (some (.UnaryOp .USub (.Constant (.int 1) k p1) p2)) p3) (.ref a) (.ref s4.heap.objs.size)) (EP X pins σ Q) X.xe { s4 with heap := s4.heap.push { cls := .type "slice", data := .fields #[.none, .none, ve] } }
      refine tail_any (ops := [.ref a, .ref s4.heap.objs.size]) ht.typeIs (PyProof.Rows.slot_tuple_getitem.lookup) ?_ (by with_unfolding_all rfl)
      refine tuple_rev ht (Heap.IsSliceOf.new _ .none .none ve) ps ?_ (by rw [← rv.length]; exact hz)
      exact tup_new (t' := s4.toks) I5 rv.reverse (by rw [List.length_reverse]; exact hz) fun p o hp hd => madeT q hp hd r.reverse
    · cases se
      obtain ⟨a, vs, rfl, hq, r⟩ := r2.lst
      cases r1
      obtain ⟨its, rv, ht, hz⟩ := I5.list (gx.K ▸ hq)
      show wpAny (model X.prog X.w) X.A (subscriptTail e (.Slice none none (some (.UnaryOp .USub (.Constant (.int 1) k p1) p2)) p3) (.ref a) (.ref s4.heap.objs.size)) (EP X pins σ Q) X.xe { s4 with heap := s4.heap.push { cls := .type "slice", data := .fields #[.none, .none, ve] } }
      refine tail_any (ops := [.ref a, .ref s4.heap.objs.size]) ht.isList.typeIs (PySem.slot_list_getitem.lookup) ?_ (by with_unfolding_all rfl)
      refine wpAny_getItem_list_slice ht.isList (Heap.IsSliceOf.new _ .none .none ve) .none .none ps (by decide) ?_ (by rw [List.size_toArray, ← rv.length]; exact hz)
      rw [PySem.W.krv_pick]
      refine ⟨.ref _, _, I5.laid (t' := s4.toks) (o := .lst vs.reverse) (fun b ob q => Heap.get?_push_of_some _ q) (Nat.le_refl _) ?_, rfl, made q (I5.hok.fresh (Nat.le_refl _)) r.reverse⟩
      exact ⟨by rw [List.length_reverse]; exact hz, _, 0, rv.reverse, Heap.get?_push_size _ rfl⟩
end
section
variable {R : RC} {T : Tab} {cc : CC} {Γ : Env'}
theorem SndE.rev {a : Expr} {ea : E} {k : Nat} {p1 p2 p3 pos : Pos} (ha : SndG R T cc Γ a ea) : SndE R T cc Γ (.Subscript a (.Slice none none (some (.UnaryOp .USub (.Constant (.int 1) k p1) p2)) p3) pos) (.rev ea) := fun X W c tk => by
  refine PE.imp (pe_revD (T := T) c.gx (ha X W c tk)) fun σ H Q ⟨ρ, loc, g, S, q⟩ => ?_
  unfold den at q
  refine ⟨ρ, loc, g, S, ?_⟩
  have q1 := AnsG.bind S q
  cases e1 : gA ea loc g (den Γ ea loc g) with
  | bad => simp only [e1] at q1 ⊢; exact q1
  | ex c fs g' => simp only [e1] at q1 ⊢; exact q1
  | ok ax g' =>
    simp only [e1] at q1 ⊢
    intro ρ' v H1 st av
    obtain ⟨ρ1, a1, g1, st1, av1, S1, q2⟩ := q1 ρ' v H1 st av
    exact opOf_ans S1 q2 (.cons av1 .nil)
end
end PyD
end
section
set_option Elab.async false
set_option linter.all false
set_option maxRecDepth 100000
set_option maxHeartbeats 2000000
namespace PyD
open PySem PySem.Spec PyProof.Rows L2
section
variable {R : RC} {T : Tab} {cc : CC} {Γ : Env'} {X : Cx} {ρ ρ1 : List (List Addr)} {H H1 : Hp} {loc : Loc} {g g1 : G} {σ : St} {W : WX}
theorem pe_tupRgF {e : Expr} {te : St → Hp → (Int → Int → Hp → Prop) → Prop} {p pos : Pos} (hc : X.calm = true) (hg : Gl X "tuple") (hm : X.mg "tuple" = none) (he : PRg X e te) (na : starEach [e] X.env = (false, eval e X.env) :: starEach [] X.env) :
    PE X (.Call (.Name "tuple" p) [e] [] pos) (fun σ H Q => te σ H fun a b H1 => RgOk a b ∧ ∀ q (o : Obj), H1 q = none → o.dict = none → Q (.ref q) (upd H1 q (.frz o (.tup (rgV a b))))) := by
  refine ⟨fun pins s σ H Q I h => ?_⟩
  refine Call_ (ld_blt I hg hm boot_tuple (PyProof.Rows.callWith_type1 (args_cons (thn (he pins s σ H _ I h) fun x s1 ⟨r, a, b, t, u, v, H1, ex, hr, I1, ok, q⟩ => args_nil ?_) na) na))
  subst ex
  obtain ⟨b1, b2, b3, b4, b5⟩ := ok
  refine call_tuple_range (n := (b - a).toNat) (I1.ok.hd hc) hr (small_one b1 b2 b3 b4) (rangeSize_nat a b) b5 fun h' tk acc hk hi => ?_
  have I2 : Inv X pins σ H1 { s1 with heap := h', toks := tk } := I1.kept hk
  have z := tup_new (t' := tk) I2 (vals_rg hi) (by rw [rgV_length, sizeLine_eq]; omega) q
  rw [Array.toArray_toList] at z
  exact z
def rg2 : List PyD.D → Option (Int × Int)
  | [.int n] => some (0, n)
  | [.int a, .int b] => some (a, b)
  | _ => none
theorem rng_of2 {ds l : List PyD.D} (hl : ds.length ≤ 2) (h : rngD ds = some l) : ∃ a b, rg2 ds = some (a, b) ∧ l = (List.range (b - a).toNat).map (fun (k : Nat) => PyD.D.int (a + (k : Int))) ∧ -(2 ^ 62) ≤ a ∧ a < 2 ^ 62 ∧ -(2 ^ 62) ≤ b ∧ b < 2 ^ 62 := by
  unfold rngD at h
  split at h
  · rename_i n
    split at h
    · rename_i hs
      cases h
      simp only [small62_iff, Bool.and_eq_true, decide_eq_true_eq] at hs
      exact ⟨0, n, rfl, by rw [Int.sub_zero], by omega, by omega, hs.1, hs.2⟩
    · cases h
  · rename_i a b
    split at h
    · rename_i hs
      cases h
      simp only [small62_iff, Bool.and_eq_true, decide_eq_true_eq] at hs
      exact ⟨a, b, rfl, rfl, hs.1.1, hs.1.2, hs.2.1, hs.2.2⟩
    · cases h
  · simp at hl
  · cases h
def tRgA (R : RC) (T : Tab) (Γ : Env') (W : WX) (ts : List E) : St → Hp → (Int → Int → Hp → Prop) → Prop := fun σ H Q => ∃ ρ loc g, SR R T ρ H loc g σ ∧ match denA Γ ts loc g with
  | .ok as g1 => ∃ ds a b, valsOf loc as = some ds ∧ rg2 ds = some (a, b) ∧ ∀ ρ1 H1, Stp R T ρ ρ1 H H1 g1 → Q a b H1
  | .ex c fs g' => ∀ ρ' C dx H', Stp R T ρ ρ' H H' g' → R.mg c = some (.ref C) → ExcAt R ρ' H' dx fs → W (.ref C) dx σ H'
  | .bad => False
def SndR (R : RC) (T : Tab) (cc : CC) (Γ : Env') (e : Expr) (ts : List E) : Prop := ∀ (X : Cx) (W : WX), CtxOk R T X cc Γ → Takes X W → PRg X e (tRgA R T Γ W ts)
theorem PRg.imp {e : Expr} {t u : St → Hp → (Int → Int → Hp → Prop) → Prop} (h : PRg X e t) (q : ∀ σ H Q, u σ H Q → t σ H Q) : PRg X e u := fun pins s σ H Q I x => h pins s σ H Q I (q σ H Q x)
theorem SndR.one {a : Expr} {t : E} {p pos : Pos} (hg : globB cc "range" = true) (hm : R.mg "range" = none) (ha : SndG R T cc Γ a t) (hs : ∀ env, starEach [a] env = (false, eval a env) :: starEach [] env := by intro _; rfl) : SndR R T cc Γ (.Call (.Name "range" p) [a] [] pos) [t] := fun X W c tk => by
  obtain ⟨h1, _, _⟩ := globB_ok c hg
  refine PRg.imp (prg_1 h1 (by rw [c.gx.mg]; exact hm) (ha X W c tk) (hs X.env)) fun σ H Q ⟨ρ, loc, g, S, q⟩ => ⟨ρ, loc, g, S, ?_⟩
  unfold denA at q
  show AnsG R T ρ H σ (gA t loc g (den Γ t loc g)) _ _
  cases e : gA t loc g (den Γ t loc g) with
  | bad => rw [e] at q; exact q
  | ex c fs g' => rw [e] at q; exact q
  | ok x g1 =>
    rw [e] at q
    unfold denA at q
    dsimp only at q
    obtain ⟨ds, a', b, e1, e2, q⟩ := q
    intro ρ' v H1 st av
    have S1 := st.sr S
    cases ex : x.val loc with
    | none => simp only [valsOf, ex] at e1; cases e1
    | some d =>
      simp only [valsOf, ex] at e1
      cases e1
      cases d <;> simp only [rg2] at e2 <;> first | (cases e2; done) | skip
      cases e2
      exact ⟨_, (arg_val S1 av ex).int, q ρ' H1 st⟩
theorem SndR.two {a b : Expr} {t u : E} {p pos : Pos} (hg : globB cc "range" = true) (hm : R.mg "range" = none) (ha : SndG R T cc Γ a t) (hb : SndG R T cc Γ b u) (hs : ∀ env, starEach [a, b] env = (false, eval a env) :: starEach [b] env := by intro _; rfl)
    (hs2 : ∀ env, starEach [b] env = (false, eval b env) :: starEach [] env := by intro _; rfl) (hp : ∀ env, (backTo pos (starEach [b] env)).any (·.1) = false := by intro _; rfl) : SndR R T cc Γ (.Call (.Name "range" p) [a, b] [] pos) [t, u] := fun X W c tk => by
  obtain ⟨h1, _, _⟩ := globB_ok c hg
  refine PRg.imp (prg_2 h1 (by rw [c.gx.mg]; exact hm) (ha X W c tk) (hb X W c tk) (hs X.env) (hs2 X.env) (hp X.env)) fun σ H Q ⟨ρ, loc, g, S, q⟩ => ⟨ρ, loc, g, S, ?_⟩
  unfold denA at q
  show AnsG R T ρ H σ (gA t loc g (den Γ t loc g)) _ _
  cases e : gA t loc g (den Γ t loc g) with
  | bad => rw [e] at q; exact q
  | ex c fs g' => rw [e] at q; exact q
  | ok x g1 =>
    rw [e] at q
    dsimp only at q
    intro ρ1 v H1 st av
    have S1 := st.sr S
    refine ⟨ρ1, loc, g1, S1, ?_⟩
    unfold denA at q
    show AnsG R T ρ1 H1 σ (gA u loc g1 (den Γ u loc g1)) _ _
    cases e' : gA u loc g1 (den Γ u loc g1) with
    | bad => rw [e'] at q; exact q
    | ex c fs g' => rw [e'] at q; exact fun ρ' C dx H' a b d => q ρ' C dx H' (st.trans a) b d
    | ok y g2 =>
      rw [e'] at q
      unfold denA at q
      dsimp only at q
      obtain ⟨ds, a', b, e1, e2, q⟩ := q
      intro ρ2 w H2 st2 av2
      have S2 := st2.sr S1
      have av' := av.ext st2.n.1 (st2.ext S1.gr)
      cases ex : x.val loc with
      | none => simp only [valsOf, ex] at e1; cases e1
      | some d =>
        cases ey : y.val loc with
        | none => simp only [valsOf, ex, ey] at e1; cases e1
        | some d' =>
          simp only [valsOf, ex, ey] at e1
          cases e1
          cases d <;> simp only [rg2] at e2 <;> first | (cases e2; done) | skip
          cases d' <;> simp only at e2 <;> first | (cases e2; done) | skip
          cases e2
          exact ⟨_, _, (arg_val S2 av' ex).int, (arg_val S2 av2 ey).int, q ρ2 H2 (st.trans st2)⟩
theorem reps_rg (a b : Int) : Reps R ρ H ((List.range (b - a).toNat).map fun (k : Nat) => PyD.D.int (a + (k : Int))) (rgV a b) := by
  unfold rgV
  generalize List.range (b - a).toNat = l
  induction l with
  | nil => exact .nil
  | cons k l ih => exact .cons (.int _) ih
/-- what the evaluator says of list(range(..)) -/
theorem col_of {f : String} {ts : List E} {Q : VK} (hl : ts.length ≤ 2) (h : rdE R T W (den Γ (.col f (.rng ts))) σ H Q) : tRgA R T Γ W ts σ H fun a b H1 => RgOk a b ∧ ∃ ρ1 g1 own d, GR R T ρ1 H1 g1 ∧ biD f [.lst ((List.range (b - a).toNat).map fun (k : Nat) => PyD.D.int (a + (k : Int)))] = some (own, d) ∧
    ∀ v H', (∀ b o, H1 b = some o → H' b = some o) → RepX R ρ1 H' own d v → (own = true → ∀ a, v = .ref a → H1 a = none) → Q v H' := by
  obtain ⟨ρ, loc, g, S, q⟩ := h
  refine ⟨ρ, loc, g, S, ?_⟩
  unfold den denI at q
  cases e : denA Γ ts loc g with
  | bad => rw [e] at q; exact q
  | ex c fs g' => rw [e] at q; exact q
  | ok as g1 =>
    rw [e] at q
    dsimp only at q
    cases e1 : valsOf loc as with
    | none => rw [e1] at q; exact q.elim
    | some ds =>
      rw [e1] at q
      dsimp only at q
      cases e2 : rngD ds with
      | none => rw [e2] at q; exact q.elim
      | some l =>
        rw [e2] at q
        dsimp only at q
        by_cases hz : l.length ≤ sizeLine
        case neg => rw [if_neg (by simpa using hz)] at q; exact q.elim
        rw [if_pos (by simpa using hz)] at q
        cases e3 : biD f [.lst l] with
        | none => rw [e3] at q; exact q.elim
        | some r =>
          obtain ⟨own, d⟩ := r
          rw [e3] at q
          obtain ⟨a, b, r1, r2, r3, r4, r5, r6⟩ := rng_of2 (by rw [valsOf_len e1, denA_len e]; exact hl) e2
          refine ⟨ds, a, b, e1, r1, fun ρ1 H1 st => ?_⟩
          have S1 := st.sr S
          have hz' : (b - a).toNat ≤ 2 ^ 24 := by
            rw [r2, List.length_map, List.length_range, sizeLine_eq] at hz
            omega
          refine ⟨⟨r3, r4, r5, r6, hz'⟩, ρ1, g1, own, d, S1.gr, by rw [← r2]; exact e3, fun v H' k x fv => ?_⟩
          exact q ρ1 v H' (st.trans (Stp.all S1.gr k)) x fun ho y hy => by
            have n1 := fv ho y hy
            have nf : y ∉ ρ1.flatten := fun z => by
              obtain ⟨o, hz, _⟩ := S1.gr.unst z
              rw [n1] at hz; cases hz
            exact ⟨st.k.none n1 fun z => nf (st.n.1.flat z), nf⟩
theorem tRgA_mono {ts : List E} {Q Q' : Int → Int → Hp → Prop} (h : tRgA R T Γ W ts σ H Q) (q : ∀ a b H', Q a b H' → Q' a b H') : tRgA R T Γ W ts σ H Q' := by
  obtain ⟨ρ, loc, g, S, h⟩ := h
  refine ⟨ρ, loc, g, S, ?_⟩
  cases e : denA Γ ts loc g with
  | bad => rw [e] at h; exact h
  | ex c fs g' => rw [e] at h; exact h
  | ok as g1 =>
    rw [e] at h
    obtain ⟨ds, a, b, e1, e2, h⟩ := h
    exact ⟨ds, a, b, e1, e2, fun ρ1 H1 st => q a b H1 (h ρ1 H1 st)⟩
theorem SndE.colL {e : Expr} {ts : List E} {p pos : Pos} (hg : globB cc "list" = true) (hm : R.mg "list" = none) (hl : ts.length ≤ 2) (he : SndR R T cc Γ e ts) (na : ∀ env, starEach [e] env = (false, eval e env) :: starEach [] env := by intro _; rfl) :
    SndE R T cc Γ (.Call (.Name "list" p) [e] [] pos) (.col "list" (.rng ts)) := fun X W c tk => by
  obtain ⟨h1, _, _⟩ := globB_ok c hg
  refine PE.imp (pe_listRg c.gx.calm h1 (by rw [c.gx.mg]; exact hm) (he X W c tk) (na X.env)) fun σ H Q h => ?_
  refine tRgA_mono (col_of hl h) fun a b H1 ⟨ok, ρ1, g1, own, d, G, hb, q⟩ => ⟨ok, fun z hz => ?_⟩
  simp only [biD, D.items] at hb
  cases hb
  exact made q hz (reps_rg a b)
theorem SndE.colT {e : Expr} {ts : List E} {p pos : Pos} (hg : globB cc "tuple" = true) (hm : R.mg "tuple" = none) (hl : ts.length ≤ 2) (he : SndR R T cc Γ e ts) (na : ∀ env, starEach [e] env = (false, eval e env) :: starEach [] env := by intro _; rfl) :
    SndE R T cc Γ (.Call (.Name "tuple" p) [e] [] pos) (.col "tuple" (.rng ts)) := fun X W c tk => by
  obtain ⟨h1, _, _⟩ := globB_ok c hg
  refine PE.imp (pe_tupRgF c.gx.calm h1 (by rw [c.gx.mg]; exact hm) (he X W c tk) (na X.env)) fun σ H Q h => ?_
  refine tRgA_mono (col_of hl h) fun a b H1 ⟨ok, ρ1, g1, own, d, G, hb, q⟩ => ⟨ok, fun z o hz hd => ?_⟩
  simp only [biD, D.items] at hb
  cases hb
  exact madeT q hz hd (reps_rg a b)
end
end PyD
end
section
set_option Elab.async false
set_option linter.all false
set_option maxRecDepth 100000
set_option maxHeartbeats 2000000
namespace PyD
open PySem PySem.Spec PyProof.Rows L2
section
variable {X : Cx} {pins : List (Addr × Obj)} {σ : St} {H : Hp} {s : Shared} {a C dx : Addr} {ks : List (Str × V)} {f : Str} {v : V} {A : Around} {E : Value → Shared → Prop}
theorem get_frz {b : Bool} {Q : Value → Shared → Prop} {o : Obj} (I : L2.Inv X pins σ H s) (e : H a = some (.frz o (.ins C dx ks))) (c : Cls X.K C) (n : NoAttr X.K C f) (l : ks.lookup f = some v)
    (h : ∀ u s', L2.Inv X pins σ H s' → RelV v u → Q u s') : wpAny (model X.prog X.w) A (getAttr (.ref a) f b) Q E s := by
  obtain ⟨_, d, z, ne, ob, mA, nn, r, q⟩ := (show ObjOk X.prog X.w H s.heap a (.frz o (.ins C dx ks)) from I.hok a _ e)
  obtain ⟨u, hu, ru⟩ := RelO.some_of (v := v) (o := mA f) (by rw [← l]; exact r f)
  exact get_map I.kIn ⟨ob, nn, ne⟩ (c.get f) c.hd n hu (handed_of ru) (h u _ (I.tok _) ru)
end
theorem RepF.look {R : RC} {ρ : List (List Addr)} {H : Hp} {f : Str} : ∀ {fs : List (Str × D)} {ks : List (Str × V)} {d : D}, RepF R ρ H fs ks → fs.lookup f = some d → ∃ v, ks.lookup f = some v ∧ Rep R ρ H d v
  | _, _, _, .nil, h => by cases h
  | (g, d0) :: fs, _ :: ks, d, .cons r t, h => by
    rw [List.lookup_cons] at h ⊢
    cases e : (f == g) with
    | true => rw [e] at h; cases h; exact ⟨_, rfl, r⟩
    | false => rw [e] at h; exact RepF.look t h
section
variable {R : RC} {T : Tab} {cc : CC} {Γ : Env'}
/-- an exception's own field is read -/
def XGet (R : RC) (C : Addr) (f : Str) : Prop := ∀ (X : Cx), X.K = R.K → X.prog = R.P → X.w = R.w → ∀ (pins : List (Addr × Obj)) (σ : L2.St) (H : Hp) (s : Shared) (a dx : Addr) (o : Obj) (u : HO) (ks : List (Str × V)) (v : V) (b : Bool) (Q E : Value → Shared → Prop),
  L2.Inv X pins σ H s → H a = some (.frz o u) → o.cls = .ref C → o.dict = some dx → (∃ xs, o.data = .fields xs) → H dx = some (.xd ks) → ks.lookup f = some v → (∀ u s', L2.Inv X pins σ H s' → RelV v u → Q u s') → wpAny (model X.prog X.w) X.A (getAttr (.ref a) f b) Q E s
theorem SndE.fld {a : Expr} {ea : E} {f : Str} {pos : Pos} (ha : SndG R T cc Γ a ea) (hI : ∀ c C, Γ.field c f = true → R.mg c = some (.ref C) → Cls R.K C ∧ NoAttr R.K C f) (hX : ∀ c C, Γ.xfield c f = true → R.mg c = some (.ref C) → XGet R C f)
    (hb : ∀ env, attributeBase a f env (eval a env) = eval a env := by intro _; rfl) : SndE R T cc Γ (.Attribute a f pos) (.fld ea f) := fun X W c tk => by
  refine ⟨fun pins s σ H Q I ⟨ρ, loc, g, S, q⟩ => ?_⟩
  unfold den at q
  have q1 := AnsG.bind S q
  refine attr_of (hb X.env) (thn ((ha X W c tk).run pins s σ H (fun v H1 => rOp R T (semF Γ.field Γ.xfield f) [v] H1 Q) I ⟨ρ, loc, g, S, ?_⟩) fun u s1 ⟨x, H1, I1, rx, ρ1, g1, ds, own, d, G, rb, se, q⟩ => ?_)
  · dsimp only
    cases e1 : gA ea loc g (den Γ ea loc g) with
    | bad => simp only [e1] at q1 ⊢; exact q1
    | ex c fs g' => simp only [e1] at q1 ⊢; exact q1
    | ok ax g' =>
      simp only [e1] at q1 ⊢
      intro ρ' v H1 st av
      obtain ⟨ρ1, a1, g1, st1, av1, S1, q2⟩ := q1 ρ' v H1 st av
      exact opOf_ans S1 q2 (.cons av1 .nil)
  · cases rb with
    | @cons d1 v1 ds1 us1 r2 rb =>
      cases rb
      cases d1 <;> simp only [semF] at se <;> first | (cases se; done) | skip
      · rename_i cn fs
        by_cases hk : Γ.field cn f = true
        case neg => rw [if_neg hk] at se; cases se
        rw [if_pos hk] at se
        cases el : fs.lookup f with
        | none => rw [el] at se; cases se
        | some d' =>
          rw [el] at se
          cases se
          rcases r2 with r2 | r2
          · cases r2 with
            | @ins a C dx o _ _ ks h1 hm rf =>
              obtain ⟨v, hv, rv⟩ := RepF.look rf el
              obtain ⟨k1, k2⟩ := hI _ _ hk hm
              obtain rfl : u = Value.ref a := rx
              exact get_frz I1 h1 (c.gx.K ▸ k1) (c.gx.K ▸ k2) hv fun u' s2 I2 ru => ⟨v, H1, I2, ru, flat q rv⟩
          · cases r2 with
            | @ins a C dx _ _ ks h1 hm rf =>
              obtain ⟨v, hv, rv⟩ := RepF.look rf el
              obtain ⟨k1, k2⟩ := hI _ _ hk hm
              obtain rfl : u = Value.ref a := rx
              exact getattr_ok I1 h1 (c.gx.K ▸ k1) (c.gx.K ▸ k2) hv fun u' s2 I2 ru => ⟨v, H1, I2, ru, flat q rv⟩
      · rename_i cn fs
        by_cases hk : Γ.xfield cn f = true
        case neg => rw [if_neg hk] at se; cases se
        rw [if_pos hk] at se
        cases el : fs.lookup f with
        | none => rw [el] at se; cases se
        | some d' =>
          rw [el] at se
          cases se
          rcases r2 with r2 | r2
          · cases r2 with
            | @exc a C dx o u0 _ _ ks h1 h2 h3 h4 h5 hm rf =>
              obtain ⟨v, hv, rv⟩ := RepF.look rf el
              obtain rfl : u = Value.ref a := rx
              exact hX _ _ hk hm X c.gx.K c.gx.prog c.gx.w pins σ H1 s1 a dx o u0 ks v true _ _ I1 h1 h2 h3 h4 h5 hv fun u' s2 I2 ru => ⟨v, H1, I2, ru, flat q rv⟩
            | excN h1 h2 h3 h4 hm => cases el
          · cases r2
end
end PyD
end
section
set_option Elab.async false
set_option linter.all false
set_option maxRecDepth 100000
set_option maxHeartbeats 4000000
namespace PyD
open PySem PySem.W PySem.Calls PyProof.Rows PySem.HandSPX

def supA (f : Str) (u1 u2 : Pos) : Arguments := { posonlyargs := [], args := [{ arg := "self", annotation := none, pos := u1 }, { arg := f, annotation := none, pos := u2 }], vararg := none, kwonlyargs := [], kw_defaults := [], kwarg := none, defaults := [] }
def supB (f m : Str) (j : Nat) (u0 u1 u2 u3 u4 u5 u6 u7 u8 u9 : Pos) : List Stmt :=
  [.Expr (.Call (.Attribute (.Call (.Name "super" u0) [] [] u1) "__init__" u2) [.Constant (.str m) j u3] [] u4) u5,
   .Assign [.Attribute (.Name "self" u6) f u7] (.Name f u8) u9]
def supS (f : Str) : Scope := { kind := .function, names := [("self", .local), (f, .local), ("__class__", .free), ("super", .globalImplicit)], isGenerator := false, isCoroutine := false, more := [] }
/-- what is known of such a class at C, its __init__ at fI, its field f -/
structure SupT (prog : Program) (K : Frag) (mg : Str → Option Value) (C fI : Addr) (q f : Str) : Prop where
  cls : ∃ nm qn N bs bm sn sub ab col dd k0 k1 k2 k3 k5, K.lookup C = some (excClassObj nm qn C N bs bm true sn sub ab col dd k0 k1 k2 k3 k5 "ValueError.__new__") ∧ refsVE bm = true
  sa : findIn K (.ref C) "__setattr__" = some (some (.builtin "object.__setattr__"))
  noF : findIn K (.ref C) f = some none
  iC : findIn K (.ref C) "__init__" = some (some (.ref fI))
  tI : typeIn K (.ref fI) = some (.type "function")
  kC : keepIn K (.ref C) = true
  exC : subIn K (.ref C) (.type "BaseException") = some true
  veC : subIn K (.ref C) (.type "ValueError") = some true
  tyC : typeIn K (.ref C) = some (.type "type")
  sup : ks_superIn K C C "__init__" = some (some (.builtin "ValueError.__init__"))
  own : mroIn K C (.ref C) = some true
  opq : nsIn K cStatics "thirdparty.any" = some none
  gs : mg "super" = none
  top : (prog.main.scope.names.lookup ("super" : Str)).isSome = false
  ns1 : (("self" : Str) == f) = false
  ns2 : (f == ("__debug__" : Str)) = false
  lf : (supS f).names.lookup f = some .local
  lc : (supS f).names.lookup ("__class__" : Str) = some .free
  lu : (supS f).names.lookup ("super" : Str) = some .globalImplicit
  fn : ∃ (oc : Value) (od : Option Addr) (doc pm : Value) (an : Option Addr) (cda cc : Addr) (ct : Value) (osl : Array (Option Value)) (m : Str) (j : Nat) (p1 p2 u0 u1 u2 u3 u4 u5 u6 u7 u8 u9 : Pos)
      (ccl cl : Value) (cdd cld : Option Addr) (ccs csl : Array (Option Value)) (vs : Array Value) (file : Str) (tf : Tok),
    K.lookup fI = some ⟨oc, od, .func (fnX "__init__" q (supA f p1 p2) (supB f m j u0 u1 u2 u3 u4 u5 u6 u7 u8 u9) (supS f) [("__class__", cc)] .none .none doc pm an (.ref cda) ct), osl⟩ ∧ codeIn K (.ref cda) q = true ∧
    K.lookup cda = some ⟨ccl, cdd, .fields vs, ccs⟩ ∧ vs[2]? = some (.str file tf) ∧ ((prog.main.file : Str) == file) = true ∧ (u2.endLine == u4.line) = true ∧ K.lookup cc = some ⟨cl, cld, .cell (some (.ref C)), csl⟩ ∧
    ∀ x v : Value, bindArgs (fnX "__init__" q (supA f p1 p2) (supB f m j u0 u1 u2 u3 u4 u5 u6 u7 u8 u9) (supS f) [("__class__", cc)] .none .none doc pm an (.ref cda) ct) ⟨[x, v], []⟩ = pure ([("self", x), (f, v)] : List (Str × Value))

theorem meth_eval {o : Expr} {name : Str} {apos pos : Pos} {args : List Expr} {env : Env} (hl : (apos.endLine == pos.line) = true) (hf : methodCallForm (args.length + 0) (backTo pos (starEach args env)) [] = true) :
    eval (.Call (.Attribute o name apos) args [] pos) env = (do
      let ov ← attributeBase o name env (eval o env)
      standAt apos.atName
      let (f, first) ← holding [ov] (getMethod ov name (do return (← importBound o env).getD true))
      callWith pos f first (backTo pos (starEach args env)) []) := by
  show (do
      let ov ← attributeBase o name env (eval o env)
      standAt apos.atName
      methodCall o name apos pos env ov (args.length + 0) (backTo pos (starEach args env)) []) = _
  simp only [methodCall, methodCallPos, calleeOf, hl, hf, Bool.or_true, if_true, pure_bind]
theorem one_fits (v : Value) : [v].length ≤ sizeLine := by rw [sizeLine_eq]; exact (by decide : 1 ≤ 16777216)
/-- what __init__ leaves of a fresh error at x -/
structure SupEnd (h h' : Heap) (x C dx : Addr) (f : Str) (v : Value) : Prop where
  keep : ∀ b o, b ≠ x → h.get? b = some o → h'.get? b = some o
  obj : ∃ t1 : Addr, h'.get? x = some { cls := .ref C, dict := some dx, data := .fields #[.ref t1, .none, .none, .none, .bool false, .none] }
  dbig : h.objs.size ≤ dx
  dne : dx ≠ x
  ns : h'.Ns1 dx (fun y => if y = f then some v else none)
section
variable {prog : Program} {w : World} {A : Around} {E : Value → Shared → Prop} {h : Heap} {g : Array GenState} {d : Drawn} {t : Nat} {os : OsState}
variable {nm q : Str} {C N : Addr} {bs bm : List Value} {hdct : Bool} {sn : List Str} {sub : List Value} {ab : Bool} {col : Option Bool} {dd : Option Addr} {k0 k1 k2 k3 k5 : Option Value}
/-- the base's __init__, bound to the new error, called -/
theorem base_called {u e t0 : Addr} {rest : List Value} {Q : Value → Shared → Prop} (hbm : refsVE bm = true)
    (hC : h.get? C = some (excClassObj nm q C N bs bm hdct sn sub ab col dd k0 k1 k2 k3 k5 "ValueError.__new__")) (he : h.get? e = some (excO C t0)) (hu : h.get? u = some (kxs_mw "ValueError.__init__" e)) (hrest : rest.length ≤ sizeLine)
    (hq : ∀ h' t1, (∀ b o, b ≠ e → h.get? b = some o → h'.get? b = some o) → h'.get? e = some (excO C t1) → Q .none ⟨h', g, d, t, os⟩) :
    wpAny (model prog w) A (call (.ref u) rest) Q E ⟨h, g, d, t, os⟩ := by
  refine wpAny_call (codeAny_of_tree ?_)
  show wpAny _ A.in1 (callAny (.ref u) ⟨rest, []⟩) _ _ _
  simp only [callAny]
  refine wpAny_bind (wpAny_load hu ?_)
  simp only [kxs_mw, show (Value.type "method-wrapper" == Value.type "method" || Value.type "method-wrapper" == Value.type "builtin_function_or_method" || Value.type "method-wrapper" == Value.type "method-wrapper") = true by decide, if_true]
  refine W.KFB.if_so (by decide) ?_
  refine wpAny_bind (ESX.check_bound F.excBase_ValueError hC he rfl ?_)
  refine wpAny_bind (wpAny_pure (wpAny_pure ?_))
  refine ⟨Code.quiet_builtin _ (by decide +kernel), codeAny_builtin F.excBase_ValueError.initEntry ?_⟩
  rw [Around.under_plainId F.excBase_ValueError.init.plain _]
  wp_walk
  refine hq _ h.objs.size (fun b o hb ho => ?_) ?_
  · rw [Heap.get?_update_other _ _ (Ne.symm hb)]
    exact Heap.get?_push_of_some _ ho
  · rw [Heap.get?_update_self _ (Heap.get?_push_of_some _ he) rfl]
    rfl
end
section
variable {prog : Program} {w : World} {A : Around} {E : Value → Shared → Prop} {R : Result → Shared → Prop} {s : Shared} {K : Frag} {mg : Str → Option Value} {C fI : Addr} {q f : Str}
theorem sup_init (T : SupT prog K mg C fI q f) {x t0 : Addr} {v : Value} (M : L2.Mod K mg s.heap) (hx : s.heap.get? x = some (excO C t0)) (hnx : K.lookup x = none) (hroom : A.depth < recursionLimit)
    (hq : ∀ h' tk dx, SupEnd s.heap h' x C dx f v → R (.ok (.ret .none)) { s with heap := h', toks := tk }) :
    codeAny (model prog w) A (.call (.ref fI) ⟨[.ref x, v], []⟩) R s := by
  obtain ⟨oc, od, doc, pm, an, cda, cc, ct, osl, m, j, p1, p2, u0, u1, u2, u3, u4, u5, u6, u7, u8, u9, ccl, cl, cdd, cld, ccs, csl, vs, file, tf, ho, hcd, hco, hvs, hfile, hln, hcc, hbind⟩ := T.fn
  obtain ⟨nm, qn, N, bs, bm, sn, sub, ab, col, dd, k0, k1, k2, k3, k5, hC, hbm⟩ := T.cls
  have hcl : clsIn K C = some { name := nm, bases := bs, mro := .ref C :: bm, ns := N, qualname := qn, hasDict := true, slotNames := sn, subclasses := sub, abstract := ab, collection := col, hasDel := false } := by unfold clsIn; rw [hC] <;> rfl
  have cx : x ≠ C := fun z => by rw [z, hC] at hnx; cases hnx
  refine ks_codeAny_call_defAt (binds := ([("self", .ref x), (f, v)] : List (Str × Value))) hroom (M.kin _ _ ho) rfl M.nolimit (codeRec_of M.kin hcd) rfl (BindsTo.of_eq (hbind _ _)) ?_ ?_ (fun h₁ hns k₁ => ?_) rfl rfl rfl
  · intro y hy
    simp only [fnX, supS, List.mem_cons, List.not_mem_nil, or_false] at hy
    rcases hy with e | e | e | e <;> rw [e] <;> (intro z; cases z)
  · intro y hy
    rcases List.mem_cons.mp hy with e | hy
    · rw [e]; rfl
    · rcases List.mem_cons.mp hy with e | hy
      · rw [e]; exact T.lf
      · cases hy
  have hmS : (fun y => ([(("self" : Str), Value.ref x), (f, v)] : List (Str × Value)).reverse.lookup y) ("self" : Str) = some (.ref x) := by
    show List.lookup ("self" : Str) [(f, v), (("self" : Str), Value.ref x)] = _
    rw [List.lookup_cons, T.ns1, List.lookup_cons]
    rfl
  have hmF : (fun y => ([(("self" : Str), Value.ref x), (f, v)] : List (Str × Value)).reverse.lookup y) f = some v := by
    show List.lookup f [(f, v), (("self" : Str), Value.ref x)] = _
    rw [List.lookup_cons, beq_self_eq_true]
  obtain ⟨hp, g, d, t, os⟩ := s
  have M₁ : L2.Mod K mg h₁ := ⟨M.kin.keeps k₁, M.glob.keeps k₁, let ⟨mb, a, b⟩ := M.blt; ⟨mb, a.keeps k₁, b⟩, M.nolimit.keeps k₁⟩
  have X₁ : K.In h₁ := M₁.kin
  have hx₁ := k₁ _ _ hx
  have hxL : hp.objs.size ≠ x := Nat.ne_of_gt (Heap.lt_size hx)
  have hCt : ∃ cdC, (excClassObj nm qn C N bs bm true sn sub ab col dd k0 k1 k2 k3 k5 "ValueError.__new__").data = .cls cdC := ⟨_, rfl⟩
  obtain ⟨cdC, hCd⟩ := hCt
  obtain ⟨mb, hb1, hb2⟩ := M₁.blt
  -- super().__init__(..)
  show PySem.wpAt (model prog w) (A.deeper (ksEnv q (supS f) hp.objs.size fI (.ref cda) cc)) (.func (supB f m j u0 u1 u2 u3 u4 u5 u6 u7 u8 u9) (ksEnv q (supS f) hp.objs.size fI (.ref cda) cc)) (execs (supB f m j u0 u1 u2 u3 u4 u5 u6 u7 u8 u9) (ksEnv q (supS f) hp.objs.size fI (.ref cda) cc)) _ _ _
  refine ks_wpAt_execs_cons (ks_wpAt_Expr_any (ks_wpAt_MethodCall ?_ (meth_eval hln rfl)))
  refine ks_wpAt_super_base (f := fI) (cc := cda) (ar := { arg := "self", annotation := none, pos := p1 }) (fd := fnX "__init__" q (supA f p1 p2) (supB f m j u0 u1 u2 u3 u4 u5 u6 u7 u8 u9) (supS f) [("__class__", cc)] .none .none doc pm an (.ref cda) ct) T.lu T.lc rfl rfl (X₁ _ _ ho) rfl rfl rfl (X₁ _ _ hco) rfl hvs hfile T.top ?_
  refine ks_loadName_global rfl T.lu (loadGlobal_builtin M₁.glob T.gs hb1 ((hb2 "super" (by decide)).trans (by decide +kernel : bootBuiltins "super" = some (.type "super"))) ⟨rfl, ?_⟩)
  refine wpAny_loadName_free rfl T.lc (c := cc) rfl ⟨_, X₁ _ _ hcc, rfl⟩ ?_
  refine wpAny_loadName_local rfl rfl hns hmS ?_
  refine ks_wpAny_isType_cls (X₁ _ _ hC) hCd ⟨rfl, ?_⟩
  refine ks_wpAny_call_super (C := C) (X₁ _ _ hC) hCd hx₁ rfl (fun c z => by cases z) (looks_mroIn X₁ T.own) (fun h₂ e₂ k₂ => ?_)
  -- the method
  have X₂ : K.In h₂ := X₁.keeps k₂
  have hI₂ : Looks (model prog w) h₂ (isInstance (.ref x) (.type "ValueError")) true :=
    (show PySem.W.InstAt h₂ x (excO C t0) C none from ⟨k₂ _ _ hx₁, rfl, rfl, trivial⟩).type.andThen (looks_subIn X₂ T.veC)
  refine kxs_getMethod kxs_ValueError e₂ (looks_opaque X₂ T.opq) (l₀ := .ref C :: bm) (fun A Q E s k z => wpAny_bind ((looks_clsIn X₂ hcl) A _ E s k (wpAny_pure z))) rfl X₂ ?_ hI₂ cx rfl ?_
  · have z := T.sup
    unfold ks_superIn at z
    rw [hcl] at z
    exact z
  -- the call
  have k₃ : ∀ b o, h₂.get? b = some o → (h₂.push (kxs_mw "ValueError.__init__" x)).get? b = some o := fun b o z => Heap.get?_push_of_some _ z
  have hu₃ : (h₂.push (kxs_mw "ValueError.__init__" x)).get? h₂.objs.size = some (kxs_mw "ValueError.__init__" x) := Heap.get?_push_at rfl rfl
  show wpAny _ _ (callWith u4 (.ref h₂.objs.size) [] (backTo u4 (starEach [.Constant (.str m) j u3] _)) []) _ _ _
  refine kxs_callWith (i := "ValueError.__init__") (x := x) rfl (evalArgs_plain ?_)
  refine Calls.spliced_cons (wpAny_Constant_str (k := j) (pos := u3) ?_)
  refine Calls.spliced_nil ⟨hu₃, ?_⟩
  refine base_called hbm (X₂.keeps k₃ _ _ hC) (k₃ _ _ (k₂ _ _ hx₁)) hu₃ (one_fits _) fun h₄ t1 k₄ hx₄ => ?_
  -- self.f = f
  have k14 : ∀ b o, b ≠ x → h₁.get? b = some o → h₄.get? b = some o := fun b o hb z => k₄ b o hb (k₃ _ _ (k₂ _ _ z))
  have X₄ : K.In h₄ := fun b o z => k14 b o (fun y => by rw [y, hnx] at z; cases z) (X₁ b o z)
  have hns₄ : h₄.Ns hp.objs.size (fun y => ([(("self" : Str), Value.ref x), (f, v)] : List (Str × Value)).reverse.lookup y) := hns.at fun o z => k14 _ o hxL z
  refine ks_wpAt_execs_cons (ks_wpAt_Assign_Attr (wpAt_of_wpAny ?_))
  refine wpAny_Name (wpAny_loadName_local rfl T.lf hns₄ hmF ?_) T.ns2
  refine wpAny_Name (wpAny_loadName_local rfl rfl hns₄ hmS ?_)
  refine set_plain X₄ (ox := excO C t1) (od := none) ⟨hx₄, rfl, rfl, trivial⟩ T.sa ?_
  refine exc_osa X₄ hx₄ hcl (show refsVE (.ref C :: bm) = true from hbm) rfl T.noF (fun h₅ tk₅ dx k₅ dn dne hx₅ hn₅ => ?_)
  refine wpAt_of_wpAny (wpAny_execs_nil ?_)
  have sz : hp.objs.size < h₄.objs.size := by
    have z := hns₄
    obtain ⟨o, es, ep, e, _⟩ := z
    exact Heap.lt_size e
  exact hq h₅ tk₅ dx ⟨fun b o hb e => k₅ b o hb (k14 b o hb (k₁ b o e)), ⟨t1, hx₅⟩, Nat.le_trans (Nat.le_of_lt sz) dn, dne, hn₅⟩
/-- a made error -/
structure SupMade (h h' : Heap) (e C d : Addr) (f : Str) (v : Value) : Prop where
  keep : ∀ b o, h.get? b = some o → h'.get? b = some o
  new : h.objs.size ≤ e
  obj : ∃ oe vs, h'.get? e = some oe ∧ oe.cls = .ref C ∧ oe.dict = some d ∧ oe.data = .fields vs ∧ vs[1]? = some .none
  dbig : h.objs.size ≤ d
  dne : d ≠ e
  ns : h'.Ns1 d (fun y => if y = f then some v else none)
theorem sup_made (T : SupT prog K mg C fI q f) {v : Value} (M : L2.Mod K mg s.heap) (hroom : A.depth + 1 < recursionLimit)
    (hq : ∀ h' tk e d, SupMade s.heap h' e C d f v → R (.ok (.ret (.ref e))) { s with heap := h', toks := tk }) :
    codeAny (model prog w) A (.call (.ref C) ⟨[v], []⟩) R s := by
  obtain ⟨nm, qn, N, bs, bm, sn, sub, ab, col, dd, k0, k1, k2, k3, k5, hC, hbm⟩ := T.cls
  obtain ⟨hp, g, dr, tk, os⟩ := s
  have X := M.kin
  have k : ∀ b o, hp.get? b = some o → ((hp.push (kdv_tup [v])).push (excO C hp.objs.size)).get? b = some o := fun b o e => Heap.get?_push_of_some _ (Heap.get?_push_of_some _ e)
  have hget : ((hp.push (kdv_tup [v])).push (excO C hp.objs.size)).get? (hp.objs.size + 1) = some (excO C hp.objs.size) := by heap_get
  have hnx : K.lookup (hp.objs.size + 1) = none := by
    cases e : K.lookup (hp.objs.size + 1) with
    | none => rfl
    | some o =>
      have z : hp.get? (hp.objs.size + 1) = some o := X _ _ e
      exact absurd (Nat.lt_of_succ_lt (Heap.lt_size z)) (Nat.lt_irrefl _)
  have Mk : L2.Mod K mg ((hp.push (kdv_tup [v])).push (excO C hp.objs.size)) := ⟨M.kin.keeps k, M.glob.keeps k, let ⟨mb, a, b⟩ := M.blt; ⟨mb, a.keeps k, b⟩, M.nolimit.keeps k⟩
  refine call_own F.excBase_ValueError (fun Y => refsVE_contains Y bm hbm) (X _ _ hC) (looks_findIn X T.iC) (fun self => bind_fn X self T.tI) (one_fits v) ?_
  refine sup_init (s := ⟨(hp.push (kdv_tup [v])).push (excO C hp.objs.size), g, dr, tk, os⟩) T Mk hget hnx ?_ fun h' tk' dx ⟨k', hx, dn, dne, hns⟩ => ?_
  · show A.depth + 1 < recursionLimit
    exact hroom
  · have old : ∀ b o, hp.get? b = some o → h'.get? b = some o := fun b o e => k' b o (Nat.ne_of_lt (Nat.lt_succ_of_lt (Heap.lt_size e))) (k b o e)
    obtain ⟨t1, hx⟩ := hx
    have z : hp.objs.size + 1 + 1 ≤ dx := by
      first
        | (simpa only [Heap.size_push] using dn)
        | exact dn
        | (have q := dn; rw [Heap.size_push, Heap.size_push] at q; exact q)
    exact ⟨rfl, hq h' tk' (hp.objs.size + 1) dx ⟨old, Nat.le_succ _, ⟨_, _, hx, rfl, rfl, rfl, rfl⟩, Nat.le_trans (Nat.le_trans (Nat.le_succ _) (Nat.le_succ _)) z, dne, hns⟩⟩
end
end PyD
end
section
set_option Elab.async false
set_option linter.all false
set_option maxRecDepth 100000
set_option maxHeartbeats 4000000
namespace PyD
open PySem PySem.Spec PyProof.Rows L2
section
variable {X : Cx} {C fI : Addr} {q f : Str}
theorem relO_one {v : V} {v' : Value} (r : RelV v v') (y : Str) : RelO (List.lookup y [(f, v)]) (if y = f then some v' else none) := by
  by_cases hy : y = f
  · rw [if_pos hy, List.lookup_cons, hy, beq_self_eq_true]
    exact r
  · have e : (y == f) = false := by simpa using hy
    rw [if_neg hy, List.lookup_cons, e]
    trivial
/-- C(e), an own error with a field -/
def tMkSup (C : Addr) (f : Str) (ta : TA) : L2.St → Hp → XK → Prop := fun σ H Q => ta σ H fun vs H1 => ∃ v, vs = [v] ∧ ∀ d, H1 d = none → Q (.ref C) (some d) (upd H1 d (.xd [(f, v)]))
theorem pmk_sup {x : Str} {a : Expr} {ta : TA} {p pos : Pos} {k : Nat} (T : SupT X.prog X.K X.mg C fI q f) (gC : X.mg x = some (.ref C)) (hr : Room k X.A) (ha : PA X [a] ta) (hg : Gl X x) (hdb : (x == ("__debug__" : Str)) = false)
    (he : starEach (a :: []) X.env = (false, eval a X.env) :: starEach [] X.env) (hpl : (backTo pos (starEach [] X.env)).any (·.1) = false := by rfl) :
    PMk X (.Call (.Name x p) [a] [] pos) (tMkSup C f ta) := by
  intro pins s σ H Q I h
  refine wpAny_Call_Name_kw (ld_glob I hg gC ?_ hdb)
  refine PySem.W.callWith_K (h₀ := X.base) I.ok.mod.kin T.kC (thn (ha.run pos pins s σ H _ I h) fun us s1 hh => ?_) he hpl
  obtain ⟨vs, H1, I1, r1, v, ev, q1⟩ := hh
  subst ev
  refine ⟨I1.kIn, ?_⟩
  cases r1 with
  | cons rv rn =>
    rename_i v' us'
    cases rn
    show wpAny _ _ (call (.ref C) [v']) _ _ _
    have M1 : L2.Mod X.K X.mg s1.heap := ⟨I1.kIn, I1.mod.glob.keeps I1.bk, let ⟨mb, m1, m2⟩ := I1.mod.blt; ⟨mb, m1.keeps I1.bk, m2⟩, I1.nolimit⟩
    obtain ⟨hp, g, dr, tk, os⟩ := s1
    refine wpAny_call (sup_made T M1 (by have := hr.dp; omega) fun h' tk' e d M => ?_)
    show MkP X pins σ Q (.ref e) ⟨h', g, dr, tk', os⟩
    obtain ⟨oe, fv, hoe, hc, hd, hdat, h1⟩ := M.obj
    have hns := M.ns
    obtain ⟨G', g1, g2⟩ := restrict h' fun b => decide (b ≠ e)
    have gk : ∀ b, b ≠ e → G'.get? b = h'.get? b := fun b hb => g1 b (decide_eq_true hb)
    have ge : G'.get? e = none := g2 e (by simp)
    have old : ∀ b o, hp.get? b = some o → G'.get? b = some o := fun b o z => (gk b (Nat.ne_of_lt (Nat.lt_of_lt_of_le (Heap.lt_size z) M.new))).trans (M.keep b o z)
    have ob : ObjOk X.prog X.w (upd H1 d (.xd [(f, v)])) G' d (.xd [(f, v)]) :=
      ⟨_, hns.at (fun o z => (gk d M.dne).trans z), fun y => relO_one rv y⟩
    have J : L2.Inv X pins σ (upd H1 d (.xd [(f, v)])) ⟨G', g, dr, tk', os⟩ := I1.laid (t' := tk') old M.dbig ob
    refine ⟨e, oe, fv, ⟨G', g, dr, tk', os⟩, _, .ref C, some d, rfl, J, fun b o z => ?_, ge, hoe, ⟨hc, hd⟩, hdat, h1, ?_, rfl, I1.bare, raises_own T.exC T.tyC, q1 d (I1.hok.fresh M.dbig)⟩
    · by_cases hb : b = e
      · have z' : G'.get? b = some o := z
        rw [hb, ge] at z'; cases z'
      · exact (gk b hb).symm.trans z
    · rw [upd_ne (Ne.symm M.dne)]
      exact I1.hok.fresh M.new
end
def mkX0 (c : Str) : CloT → List D → G → Res := fun _ ds g => match ds with
  | [.str _] => .ok false (.exc c []) g
  | _ => .bad
def mkX1 (c f : Str) : CloT → List D → G → Res := fun _ ds g => match ds with
  | [d] => .ok false (.exc c [(f, d)]) g
  | _ => .bad
section
variable {R : RC} {T : Tab} {cc : CC} {Γ : Env'}
/-- the class c over the base error without an own __init__ -/
structure Exc0 (R : RC) (c : Str) : Prop where
  ex : ∃ C : Addr, R.mg c = some (.ref C) ∧ PySem.W.excIn R.K C He.veBase "ValueError.__new__" = true ∧ PySem.W.keepIn R.K (.ref C) = true ∧ PySem.W.subIn R.K (.ref C) (.type "BaseException") = some true ∧ PySem.W.typeIn R.K (.ref C) = some (.type "type")
/-- .. with one field -/
structure Exc1 (R : RC) (c f : Str) : Prop where
  ex : ∃ (C fI : Addr) (q : Str), R.mg c = some (.ref C) ∧ SupT R.P R.K R.mg C fI q f
theorem SndS.rai0 {c m : Str} {j : Nat} {p p2 p3 pos : Pos} (x0 : Exc0 R c) (hF : Γ.mkc c = mkX0 c) (hg : globB cc c = true) : SndS R T cc Γ (.Raise (some (.Call (.Name c p) [.Constant (.str m) j p2] [] p3)) none pos) (.rai c [.c (.str m)]) := fun X W ρ0 H0 cx tp ns tk hp => by
  obtain ⟨C, hm, h1, h2, h3, h4⟩ := x0.ex
  obtain ⟨g1, g2, g3⟩ := globB_ok cx hg
  refine PS.imp (ps_raise cx.gx.calm tk (pmk_own F.excBase_ValueError (by rw [cx.gx.K]; exact h1) (by rw [cx.gx.mg]; exact hm) (by rw [cx.gx.K]; exact h2) (raises_own (by rw [cx.gx.K]; exact h3) (by rw [cx.gx.K]; exact h4)) g1 g2)) fun D σ H ⟨ρ, loc, g, S, st, fr, q⟩ => ?_
  simp only [exe, denA, gA, den, plainArgs, hF, mkX0] at q
  exact q ρ C none σ H st hm rfl
theorem SndS.rai1 {c f : Str} {e : Expr} {t : E} {p p3 pos : Pos} (x1 : Exc1 R c f) (hF : Γ.mkc c = mkX1 c f) (hg : globB cc c = true) (ha : SndA R T cc Γ [e] [t])
    (he : ∀ env, starEach (e :: []) env = (false, eval e env) :: starEach [] env := by intro _; rfl) : SndS R T cc Γ (.Raise (some (.Call (.Name c p) [e] [] p3)) none pos) (.rai c [t]) := fun X W ρ0 H0 cx tp ns tk hp => by
  obtain ⟨C, fI, qn, hm, T1⟩ := x1.ex
  obtain ⟨g1, g2, g3⟩ := globB_ok cx hg
  have T2 : SupT X.prog X.K X.mg C fI qn f := by rw [cx.gx.prog, cx.gx.K, cx.gx.mg]; exact T1
  refine PS.imp (ps_raise cx.gx.calm tk (pmk_sup T2 (by rw [cx.gx.mg]; exact hm) cx.room (ha X W cx tk) g1 g2 (he X.env))) fun D σ H ⟨ρ, loc, g, S, st, fr, q⟩ => ?_
  refine ⟨ρ, loc, g, S, ?_⟩
  simp only [exe] at q
  dsimp only
  cases e1 : denA Γ [t] loc g with
  | bad => rw [e1] at q; exact q
  | ex c' fs g' =>
    rw [e1] at q
    exact fun ρ' C' dx H' st' hm' hx => q ρ' C' dx σ H' (st.trans st') hm' hx
  | ok as g' =>
    rw [e1] at q
    dsimp only at q
    intro ρ' vs H' st' av
    cases e2 : plainArgs as with
    | none => rw [e2] at q; exact q.elim
    | some ds =>
      rw [e2] at q
      have rr := plain_val av e2
      have hl : ds.length = 1 := by rw [plain_len e2, denA_len e1]; rfl
      match ds, hl with
      | [d], _ =>
        simp only [hF, mkX1] at q
        cases rr with
        | cons r0 rn =>
          rename_i v vs'
          cases rn
          refine ⟨v, rfl, fun dx hd => ?_⟩
          have nw := Stp.new (o := .xd [(f, v)]) st'.x hd
          exact q ρ' C (some dx) σ _ ((st.trans st').trans nw) hm ⟨[(f, v)], upd_same, .cons (Rep.ext (RExt.refl _) (nw.ext st'.x) r0) .nil⟩
end
end PyD
end
section
set_option Elab.async false
set_option linter.all false
set_option maxRecDepth 100000
set_option maxHeartbeats 4000000
namespace PyD
open PySem PySem.Spec PyProof.Rows L2
section
variable {X : Cx} {pins : List (Addr × Obj)} {σ : L2.St} {H : Hp} {s : Shared}
/-- an object that nobody changes any more is tracked, as it is -/
theorem Inv.track {a : Addr} {o : Obj} (I : L2.Inv X pins σ H s) (ho : s.heap.get? a = some o) (hn : H a = none) (hl : a ≠ X.env.locals) (hc : ∀ v, o.data ≠ .cell v) (hp : ∀ p ∈ X.pn ++ pins, p.1 ≠ a)
    (h0 : ∀ ob, X.s_0.heap.get? a = some ob → X.H_0 a = none → a ∈ X.ex) (φ : Heap → Prop) (hφ : φ s.heap) (st : ∀ h1 h2 : Heap, φ h1 → (∀ o, h1.get? a = some o → h2.get? a = some o) → φ h2) : L2.Inv X pins σ (upd H a (.frz o (.ext φ))) s := by
  have old : ∀ b u, H b = some u → ∀ o' : HO, upd H a o' b = some u := fun b u q o' => by rw [upd_ne (ne_of_none q hn)]; exact q
  have oldN : ∀ b, b ≠ a → H b = none → ∀ o' : HO, upd H a o' b = none := fun b hb q o' => by rw [upd_ne hb]; exact q
  refine ⟨I.ok, I.os, I.bare, ⟨I.base.keep, I.base.slot, fun b ob e n hx => ?_, I.base.there, fun b xs e => old b _ (I.base.tups b xs e) _, fun b ob xs e => old b _ (I.base.frzs b ob xs e) _, fun b ps e => ?_⟩,
    I.loc, I.cell, oldN _ (Ne.symm hl) I.free _, fun x c e => ?_, fun p hp' => ?_, fun b o' e => ?_, I.len⟩
  · by_cases hb : b = a
    · subst hb
      exact absurd (h0 ob e n) hx
    · exact oldN b hb (I.base.free b ob e n hx) _
  · obtain ⟨more, q⟩ := I.base.tbls b ps e
    exact ⟨more, old b _ q _⟩
  · refine oldN c (fun z => ?_) (I.freeC x c e) _
    obtain ⟨v, oc, q1, q2⟩ := I.cell x c e
    rw [z, ho] at q1; cases q1
    exact hc v q2
  · obtain ⟨e, n, r⟩ := I.pin p hp'
    exact ⟨e, oldN _ (hp p hp') n _, r⟩
  · by_cases hb : b = a
    · subst hb
      rw [upd_same] at e; cases e
      exact ⟨ho, hφ, ⟨o, ho⟩, st⟩
    · rw [upd_ne hb] at e
      exact (I.hok b o' e).stay (fun c v _ q => q) (fun c q => old c _ q _) fun c xs q => old c _ q _

/-- the wish for a caught error -/
def wCat (K : PySem.W.Frag) (c : Value) (i n : Nat) (Wout : WX) (D : Ends) : WX := fun cls d σ H =>
  ∃ b, PySem.W.exmOne K cls c = some b ∧ (b = true → ∀ (a : Addr) (o : Obj) (u : HO), H a = none → o.cls = cls → o.dict = d → (∃ xs, o.data = .fields xs) → D.nx ((σ.set n none).set i (some (.ref a))) (upd H a (.frz o u))) ∧ (b = false → Wout cls d σ H)
theorem set_back {α : Type} (l : List (Option α)) (i n : Nat) (v : Option α) (h : i ≠ n) : ((l.set n v).set i v).set n none = (l.set n none).set i v := by
  rw [List.set_comm _ _ h, List.set_set]
section
variable {x nm z : Str} {c : Value} {i n : Nat} {e : Expr} {p1 np q1 q2 q3 q4 pos : Pos} {te : WX → TE} {Wout : WX}
theorem ps_catch (hs : X.stack = X.env :: X.outer) (hf : X.env.frame = some X.env.locals) (hx : X.ex = []) (hN : X.N.Nodup) (hi : X.N[n]? = some nm) (hiz : X.N[i]? = some z) (hin : i ≠ n) (hln : X.env.kindOf nm = some .local) (hlz : X.env.kindOf z = some .local) (hc : Names X x c) (tk : Takes X Wout)
    (nd1 : (nm == ("__debug__" : Str)) = false) (nd2 : (nm == ("__classdict__" : Str)) = false)
    (he : ∀ (W : WX) (pn : List (Addr × Obj)) (xe : Value → Shared → Prop), Takes (X.tr pn xe) W → PE (X.tr pn xe) e (te W)) (hsw : swapsWith e none p1.line X.env = pure false) :
    PS X (.Try [.Expr e p1] [.ExceptHandler (some (.Name x np)) (some nm) [.Assign [.Name z q1] (.Name nm q2) q3] q4] [] [] pos) (fun D σ H => te (wCat X.K c i n Wout D) σ H fun _ H' => D.nx σ H') := by
  refine ⟨fun pins s σ H D I h => ?_⟩
  have ok := I.ok
  have hfr : X.A.frames = some (X.env :: X.outer) := by rw [ok.frames, hs]
  have hloc : L2.Loc X.env.scope nm := .inl hln
  refine wpAny_Try_except ?_
  refine wpAny_mono ((pss_one (ps_expr (X := X.tr (X.pn ++ pins) (fun e s₁ => wpAny (model X.prog X.w) X.A (noteFrame e X.env) (fun _ s₂ => wpAny (model X.prog X.w) X.A (setFlight e none) (fun _ s₃ =>
    wpAny (model X.prog X.w) X.A (handleBy e X.env [.ExceptHandler (some (.Name x np)) (some nm) [.Assign [.Name z q1] (.Name nm q2) q3] q4]) (SP X pins D) X.xe s₃) X.xe s₂) X.xe s₁)) (he (wCat X.K c i n Wout D) _ _ (fun u s' xx => ?_)) hsw)).run [] s σ H D (I.toTry _) h) (fun f s1 hsp => ?_) (fun e s1 he => he)
  · -- the catch
    obtain ⟨a, B, sI, pins', σ', H', cls, d, rfl, J', nb, up, sky, na, os, ag, b, hb1, hyes, hno⟩ := xx
    have J : L2.Inv X pins σ' H' sI := J'.ofTry ok
    have sky' : Sky B (X.env :: X.outer) a (Zc cls d) X.env.locals s'.heap := by rw [← hs]; exact sky
    have Bn : B.get? a = none := by
      rcases sky' with ⟨_, z, _⟩ | ⟨_, z, _⟩ | ⟨_, z, _⟩ <;> exact z
    show wpAny _ X.A (noteFrame (.ref a) X.env) _ _ _
    refine Sky.land Zc.steady hfr hf sky' fun h3 fl3 up3 => ?_
    have J3 : L2.Inv X pins σ' H' { s' with heap := h3 } := J.landed nb fl3.1 (up.trans up3) os ag
    obtain ⟨oe3, vs3, he3, hz3, hd3⟩ := fl3.there
    have notFr : ∀ {h : Heap} {o : Obj} {vs : Array Value}, h.FunFrames B (X.env :: X.outer) → h.get? a = some o → o.data = .fields vs → a ∉ frs (X.env :: X.outer) := fun {h o vs} ff e dd hm => by
      obtain ⟨_, o', e', hnf⟩ := ff.mem hm
      rw [e] at e'; cases e'
      exact hnf _ dd
    have nfr := notFr fl3.2.2.1 he3 hd3
    have nL : a ≠ X.env.locals := fun y => nfr (List.mem_filterMap.mpr ⟨X.env, List.mem_cons_self, by rw [hf, y]⟩)
    have nF : a ∉ X.fs := fun hm => by
      obtain ⟨e, he, y⟩ := List.mem_filterMap.mp hm
      exact nfr (List.mem_filterMap.mpr ⟨e, List.mem_cons_of_mem _ he, y⟩)
    have frS : ∀ b, b ∈ frs X.stack → b = X.env.locals ∨ b ∈ X.fs := fun b hb => by
      rw [hs] at hb
      unfold frs at hb
      rw [List.filterMap_cons, hf] at hb
      rcases List.mem_cons.mp hb with y | y
      · exact .inl y
      · exact .inr y
    have pinsOff : ∀ p ∈ X.pn ++ pins, p.1 ≠ a := fun p hp y => by
      obtain ⟨e1, _, e2, e3, _⟩ := J.pin p hp
      have := nb p.1 _ e1 fun hm => (frS _ hm).elim e2 e3
      rw [y, Bn] at this; cases this
    have young : ∀ ob, X.s_0.heap.get? a = some ob → X.H_0 a = none → a ∈ X.ex := fun ob e1 e2 => by
      exfalso
      obtain ⟨o', e3⟩ := J.base.there a ob e1 (by rw [hx]; simp)
      have := nb a _ e3 fun hm => (frS _ hm).elim nL nF
      rw [Bn] at this; cases this
    have S3 := J3.suite he3 hd3 na nL nF
    refine wpAny_handleBy_cons (codeAny_handlers_test ?_) (by intro q; cases q)
    have LT : PySem.W.Looks (model X.prog X.w) h3 (typeOf (.ref a)) cls := fun A Q E s k q => wpAny_typeOf_ref (k _ _ he3) (by rw [hz3.1]; exact q)
    have LM := PySem.W.exm_one (M := model X.prog X.w) (J3.kIn) LT hb1
    have test : ∀ {Q : Value → Shared → Prop} {E : Value → Shared → Prop}, Q c { s' with heap := h3 } → wpAny (model X.prog X.w) (X.A.mark (some (.ref a))) (eval (.Name x np) X.env) Q E { s' with heap := h3 } := fun {Q E} q => by
      obtain ⟨hg, hdbg, hm | ⟨hm, hv, hnn⟩⟩ := hc
      · exact ld_glob (X := X.suite a ((a, oe3) :: (X.pn ++ pins))) S3 hg hm q hdbg
      · exact ld_blt (X := X.suite a ((a, oe3) :: (X.pn ++ pins))) S3 hg hm hv q hnn hdbg
    refine test (LM.here ?_)
    cases b with
    | true =>
      refine codeAny_handlers_suite_as ?_
      refine HandSPX.lands_againZ fl3 fun h4 fl4 up4 => ?_
      have J4 : L2.Inv X pins σ' H' { s' with heap := h4 } := J.landed nb fl4.1 ((up.trans up3).trans up4) os ag
      obtain ⟨oe4, vs4, he4, hz4, hd4⟩ := fl4.there
      have S4 := J4.suite he4 hd4 na nL nF
      have lenN : n < σ'.length := by
        rw [J.len]
        exact (List.getElem?_eq_some_iff.mp hi).1
      refine store_ok (X := X.suite a ((a, oe4) :: (X.pn ++ pins))) (v := .ref a) S4 hN hi hloc rfl (fun s5 S5 => ?_) (.inr hln)
      refine wpAny_mono ((pss_one (ps_set (X := X.suite a ((a, oe4) :: (X.pn ++ pins))) (i := i) hN hiz (.inl hlz) (pe_var (i := n) hi (.inl hln) nd1 nd2) (by rfl) (.inr hlz))).run [] s5 _ H' { nx := fun σ'' H'' => H'' = H' ∧ σ'' = (σ'.set n (some (.ref a))).set i (some (.ref a)), rt := fun _ _ => False } S5
        ⟨.ref a, by rw [List.getElem?_set_self lenN], rfl, rfl⟩) (fun f s6 hsp => ?_) (fun _ _ y => False.elim y)
      cases f with
      | next =>
        obtain ⟨σ6, H6, S6, rfl, rfl⟩ := hsp
        have T6 : L2.Inv (X.tr ((a, oe4) :: (X.pn ++ pins)) X.xe) [] ((σ'.set n (some (.ref a))).set i (some (.ref a))) H6 s6 :=
          ⟨ok.toTry _ _, S6.os, S6.bare, S6.base, S6.loc, S6.cell, S6.free, S6.freeC, fun p hp => S6.pin p hp, S6.hok, S6.len⟩
        refine gone_ok (X := X.tr ((a, oe4) :: (X.pn ++ pins)) X.xe) T6 hN hi hln fun s7 T7 => ?_
        rw [set_back _ _ _ _ hin] at T7
        obtain ⟨g1, g2, _⟩ := T7.pin (a, oe4) (List.mem_append_left _ List.mem_cons_self)
        have I7 : L2.Inv X pins ((σ'.set n none).set i (some (.ref a))) H6 s7 :=
          ⟨ok, T7.os, T7.bare, T7.base, T7.loc, T7.cell, T7.free, T7.freeC, fun p hp => T7.pin p (List.mem_append_left _ (List.mem_cons_of_mem _ hp)), T7.hok, T7.len⟩
        have I8 := Inv.track I7 g1 g2 nL (fun v y => by have y' : oe4.data = .cell v := y; rw [hd4] at y'; cases y') pinsOff young (fun _ => True) trivial fun _ _ _ _ => trivial
        exact ⟨_, _, I8, hyes rfl a oe4 _ na hz4.1 hz4.2 ⟨_, hd4⟩⟩
      | brk =>
        obtain ⟨σ6, H6, S6, q6⟩ := hsp
        exact gone_ok (S6.unsuite ok) hN hi hln fun s7 J7 => ⟨_, _, J7, q6.elim⟩
      | cont =>
        obtain ⟨σ6, H6, S6, q6⟩ := hsp
        exact gone_ok (S6.unsuite ok) hN hi hln fun s7 J7 => ⟨_, _, J7, q6.elim⟩
      | ret u =>
        obtain ⟨v6, σ6, H6, S6, r6, q6⟩ := hsp
        exact gone_ok (S6.unsuite ok) hN hi hln fun s7 J7 => ⟨_, _, _, J7, r6, q6.elim⟩
    | false =>
      show wpAny _ X.A (handleBy (.ref a) X.env []) _ _ _
      refine wpAny_handleBy_nil ?_
      obtain ⟨k1, k2, k3, oe, vs, T, oT, ts', he, hz, hd, h1, hr⟩ := id fl3
      unfold PySem.passOn
      refine wpAny_bind (wpAny_field he hd h1 ?_)
      rw [if_neg (show ¬ ((Value.ref T == Value.none) = true) from by simp)]
      have fin : wpAny (model X.prog X.w) X.A (setFlight (.ref a) X.env.frame) (fun _ s4 => wpAny (model X.prog X.w) X.A (throw (.ref a) : Sem Flow) (SP X pins D) X.xe s4) X.xe { s' with heap := h3 } := by
        rw [hf]
        refine HandSPX.setFlight_upZ fl3 fun h4 hh4 up4 => wpAny_throw (tk _ _ ?_)
        exact ⟨a, B, sI, pins, σ', H', cls, d, rfl, J, nb, (up.trans up3).trans up4, .inr (.inr (by rw [hs]; exact hh4)), na, os, ag, hno rfl⟩
      first
        | exact wpAny_bind (wpAny_pure (wpAny_bind fin))
        | exact wpAny_bind fin
  · cases f with
    | next =>
      obtain ⟨σ', H', J', q⟩ := hsp
      exact wpAny_execs_nil ⟨σ', H', J'.ofTry ok, q⟩
    | brk =>
      obtain ⟨σ', H', J', q⟩ := hsp
      exact ⟨σ', H', J'.ofTry ok, q⟩
    | cont =>
      obtain ⟨σ', H', J', q⟩ := hsp
      exact ⟨σ', H', J'.ofTry ok, q⟩
    | ret u =>
      obtain ⟨v, σ', H', J', r, q⟩ := hsp
      exact ⟨v, σ', H', J'.ofTry ok, r, q⟩
end
end
end PyD
end
section
set_option Elab.async false
set_option linter.all false
set_option maxRecDepth 100000
set_option maxHeartbeats 4000000
namespace PyD
open PySem PySem.Spec PyProof.Rows L2
section
variable {R : RC} {T : Tab} {cc : CC} {Γ : Env'}
def SndKw (R : RC) (T : Tab) (cc : CC) (Γ : Env') (kws : List Keyword) (ts : List E) : Prop := ∀ (X : Cx) (W : WX), CtxOk R T X cc Γ → Takes X W → PK X kws (rdA R T W (denA Γ ts))
theorem PK.imp {X : Cx} {e : List Keyword} {t u : TA} (h : PK X e t) (q : ∀ σ H Q, u σ H Q → t σ H Q) : PK X e u := ⟨fun p pins s σ H Q I x => h.run p pins s σ H Q I (q σ H Q x)⟩
theorem SndKw.nil : SndKw R T cc Γ [] [] := fun X W c tk => PK.imp pk_nil fun σ H Q ⟨ρ, loc, g, S, q⟩ => by
  unfold denA at q
  exact q ρ [] H (Stp.refl S.gr) .nil
theorem rdA_cons {W : WX} {σ : L2.St} {H : Hp} {Q : List V → Hp → Prop} {t : E} {ts : List E} (h : rdA R T W (denA Γ (t :: ts)) σ H Q) :
    rdG R T W (fun loc g => gA t loc g (den Γ t loc g)) σ H fun x H1 => rdA R T W (denA Γ ts) σ H1 fun xs H2 => Q (x :: xs) H2 := by
  obtain ⟨ρ, loc, g, S, q⟩ := h
  unfold denA at q
  refine ⟨ρ, loc, g, S, ?_⟩
  show AnsG R T ρ H σ (gA t loc g (den Γ t loc g)) _ _
  cases e1 : gA t loc g (den Γ t loc g) with
  | bad => rw [e1] at q; exact q
  | ex c fs g' => rw [e1] at q; exact q
  | ok a g1 =>
    rw [e1] at q
    dsimp only at q
    intro ρ1 x H1 st av
    have S1 := st.sr S
    refine ⟨ρ1, loc, g1, S1, ?_⟩
    cases e2 : denA Γ ts loc g1 with
    | bad => rw [e2] at q; exact q
    | ex c fs g' => rw [e2] at q; exact fun ρ' C dx H' a b d => q ρ' C dx H' (st.trans a) b d
    | ok as g2 =>
      rw [e2] at q
      intro ρ2 xs H2 st2 av2
      exact q ρ2 (x :: xs) H2 (st.trans st2) (.cons (av.ext st2.n.1 (st2.ext S1.gr)) av2)
theorem SndKw.cons {nm : Option Str} {kp : Pos} {e : Expr} {kws : List Keyword} {t : E} {ts : List E} (h : SndG R T cc Γ e t) (hr : SndKw R T cc Γ kws ts) : SndKw R T cc Γ (⟨nm, e, kp⟩ :: kws) (t :: ts) := fun X W c tk =>
  PK.imp (pk_cons (h X W c tk) (hr X W c tk)) fun σ H Q q => rdA_cons q
theorem rdA_app {W : WX} {us : List E} : ∀ {ts : List E} {σ : L2.St} {H : Hp} {Q : List V → Hp → Prop}, rdA R T W (denA Γ (ts ++ us)) σ H Q → rdA R T W (denA Γ ts) σ H fun vs H1 => rdA R T W (denA Γ us) σ H1 fun ws H2 => Q (vs ++ ws) H2
  | [], σ, H, Q, ⟨ρ, loc, g, S, q⟩ => by
    refine ⟨ρ, loc, g, S, ?_⟩
    unfold denA
    intro ρ1 vs H1 st av
    cases av
    exact ⟨ρ1, loc, g, st.sr S, AnsA.step st q⟩
  | t :: ts, σ, H, Q, ⟨ρ, loc, g, S, q⟩ => by
    refine ⟨ρ, loc, g, S, ?_⟩
    rw [List.cons_append] at q
    unfold denA at q ⊢
    cases e1 : gA t loc g (den Γ t loc g) with
    | bad => rw [e1] at q; exact q
    | ex c fs g' => rw [e1] at q; exact q
    | ok a g1 =>
      rw [e1] at q
      dsimp only at q ⊢
      -- the rest, from any state behind the first one
      have key : ∀ ρ1 x H1, Stp R T ρ ρ1 H H1 g1 → ArgAt R ρ1 H1 σ a x → rdA R T W (denA Γ (ts ++ us)) σ H1 fun xs H2 => Q (x :: xs) H2 := fun ρ1 x H1 st av => by
        have S1 := st.sr S
        refine ⟨ρ1, loc, g1, S1, ?_⟩
        cases e2 : denA Γ (ts ++ us) loc g1 with
        | bad => rw [e2] at q; exact q
        | ex c fs g' => rw [e2] at q; exact fun ρ' C dx H' a b d => q ρ' C dx H' (st.trans a) b d
        | ok as g2 =>
          rw [e2] at q
          intro ρ2 xs H2 st2 av2
          exact q ρ2 (x :: xs) H2 (st.trans st2) (.cons (av.ext st2.n.1 (st2.ext S1.gr)) av2)
      cases e2 : denA Γ ts loc g1 with
      | bad =>
        have b2 : denA Γ (ts ++ us) loc g1 = .bad := denA_appB e2
        rw [b2] at q; exact q
      | ex c fs g' =>
        have b2 : denA Γ (ts ++ us) loc g1 = .ex c fs g' := denA_appX e2
        rw [b2] at q; exact q
      | ok as g2 =>
        have b2 := denA_appO (us := us) e2
        rw [b2] at q
        dsimp only
        intro ρ2 vs H2 st av
        refine ⟨ρ2, loc, g2, st.sr S, ?_⟩
        cases e3 : denA Γ us loc g2 with
        | bad => rw [e3] at q; exact q
        | ex c fs g' => rw [e3] at q; exact fun ρ' C dx H' a b d => q ρ' C dx H' (st.trans a) b d
        | ok bs g3 =>
          rw [e3] at q
          intro ρ3 ws H3 st3 av3
          exact q ρ3 (vs ++ ws) H3 (st.trans st3) (argsAt_app (av.ext st3.n.1 (st3.ext (st.sr S).gr)) av3)
where
  denA_appB : ∀ {ts : List E} {loc : Loc} {g : G}, denA Γ ts loc g = .bad → denA Γ (ts ++ us) loc g = .bad
    | [], _, _, h => by unfold denA at h; cases h
    | t :: ts, loc, g, h => by
      rw [List.cons_append]
      unfold denA at h ⊢
      cases e1 : gA t loc g (den Γ t loc g) with
      | bad => rfl
      | ex c fs g' => rw [e1] at h; cases h
      | ok a g1 =>
        rw [e1] at h
        dsimp only at h ⊢
        cases e2 : denA Γ ts loc g1 with
        | bad => rw [denA_appB e2]
        | ex c fs g' => rw [e2] at h; cases h
        | ok as g2 => rw [e2] at h; cases h
  denA_appX : ∀ {ts : List E} {loc : Loc} {g g' : G} {c : Str} {fs : List (Str × D)}, denA Γ ts loc g = .ex c fs g' → denA Γ (ts ++ us) loc g = .ex c fs g'
    | [], _, _, _, _, _, h => by unfold denA at h; cases h
    | t :: ts, loc, g, g', c, fs, h => by
      rw [List.cons_append]
      unfold denA at h ⊢
      cases e1 : gA t loc g (den Γ t loc g) with
      | bad => rw [e1] at h; cases h
      | ex c fs g' => rw [e1] at h; exact h
      | ok a g1 =>
        rw [e1] at h
        dsimp only at h ⊢
        cases e2 : denA Γ ts loc g1 with
        | bad => rw [e2] at h; cases h
        | ex c fs g' => rw [e2] at h; rw [denA_appX e2]; exact h
        | ok as g2 => rw [e2] at h; cases h
  denA_appO : ∀ {us ts : List E} {loc : Loc} {g g' : G} {as : List Arg}, denA Γ ts loc g = .ok as g' → denA Γ (ts ++ us) loc g = match denA Γ us loc g' with | .ok bs g2 => .ok (as ++ bs) g2 | x => x
    | us, [], loc, g, g', as, h => by
      unfold denA at h; cases h
      rw [List.nil_append]
      cases denA Γ us loc g <;> rfl
    | us, t :: ts, loc, g, g', as, h => by
      rw [List.cons_append]
      unfold denA at h
      rw [denA]
      cases e1 : gA t loc g (den Γ t loc g) with
      | bad => rw [e1] at h; cases h
      | ex c fs g' => rw [e1] at h; cases h
      | ok a g1 =>
        rw [e1] at h
        dsimp only at h ⊢
        cases e2 : denA Γ ts loc g1 with
        | bad => rw [e2] at h; cases h
        | ex c fs g' => rw [e2] at h; cases h
        | ok as2 g2 =>
          rw [e2] at h; cases h
          rw [denA_appO e2]
          cases denA Γ us loc g' <;> rfl
  argsAt_app : ∀ {R : RC} {ρ : List (List Addr)} {H : Hp} {σ : L2.St} {as bs : List Arg} {vs ws : List V}, ArgsAt R ρ H σ as vs → ArgsAt R ρ H σ bs ws → ArgsAt R ρ H σ (as ++ bs) (vs ++ ws)
    | _, _, _, _, _, _, _, _, .nil, s => s
    | _, _, _, _, _, _, _, _, .cons a t, s => .cons a (argsAt_app t s)
theorem argsAt_len {ρ : List (List Addr)} {H : Hp} {σ : L2.St} : ∀ {as : List Arg} {vs : List V}, ArgsAt R ρ H σ as vs → vs.length = as.length
  | _, _, .nil => rfl
  | _, _, .cons _ t => by simp [argsAt_len t]
theorem rdA_len {W : WX} {ts : List E} {σ : L2.St} {H : Hp} {Q : List V → Hp → Prop} (h : rdA R T W (denA Γ ts) σ H Q) : rdA R T W (denA Γ ts) σ H fun vs H1 => vs.length = ts.length ∧ Q vs H1 := by
  obtain ⟨ρ, loc, g, S, q⟩ := h
  refine ⟨ρ, loc, g, S, ?_⟩
  cases e : denA Γ ts loc g with
  | bad => rw [e] at q; exact q
  | ex c fs g' => rw [e] at q; exact q
  | ok as g' =>
    rw [e] at q
    exact fun ρ' vs H' st av => ⟨by rw [argsAt_len av, denA_len e], q ρ' vs H' st av⟩
def SndK (R : RC) (T : Tab) (cc : CC) (Γ : Env') (es : List Expr) (kws : List Keyword) (ts : List E) (n : Nat) (ks : List Str) : Prop :=
  (∀ (pos : Pos) (env : Env), ((backTo pos (starEach es env)).any (·.1) || (backToKw pos (keywordEach kws env)).any (·.1.isNone)) = false) ∧
  ∀ (X : Cx) (W : WX), CtxOk R T X cc Γ → Takes X W → ∀ (f : Value) (pos : Pos) (pins : List (Addr × Obj)) (s : Shared) (σ : L2.St) (H : Hp) (Q : List V → Hp → Prop), L2.Inv X pins σ H s → rdA R T W (denA Γ ts) σ H Q →
    wpAny (model X.prog X.w) X.A (evalArgs f true (backTo pos (starEach es X.env)) (backToKw pos (keywordEach kws X.env)))
      (fun a s1 => ∃ (us ws : List Value) (vs : List V) (H1 : Hp), a = ⟨us, ks.zip ws⟩ ∧ us.length = n ∧ ws.length = ks.length ∧ Vals vs (us ++ ws) ∧ L2.Inv X pins σ H1 s1 ∧ Q vs H1) X.xe s
theorem SndK.no : SndK R T cc Γ [] [] [] 0 [] := by
  refine ⟨fun _ _ => rfl, fun X W c tk f pos pins s σ H Q I h => ?_⟩
  refine evalArgs_nil3 ?_
  obtain ⟨ρ, loc, g, S, q⟩ := h
  unfold denA at q
  exact ⟨[], [], [], H, rfl, rfl, rfl, .nil, I, q ρ [] H (Stp.refl S.gr) .nil⟩
theorem SndK.ps {e : Expr} {es : List Expr} {t : E} {ts : List E} {n : Nat} (ha : SndA R T cc Γ (e :: es) (t :: ts)) (hn : n = (t :: ts).length) (he : ∀ env, starEach (e :: es) env = (false, eval e env) :: starEach es env := by intro _; rfl) (hpl : ∀ pos env, ((backTo pos (starEach (e :: es) env)).any (·.1) || (backToKw pos (keywordEach [] env)).any (·.1.isNone)) = false := by intro _ _; rfl) :
    SndK R T cc Γ (e :: es) [] (t :: ts) n [] := by
  refine ⟨hpl, fun X W c tk f pos pins s σ H Q I h => ?_⟩
  have r := (ha X W c tk).run pos pins s σ H _ I (rdA_len h)
  rw [he X.env] at r ⊢
  refine Calls.evalArgs_plain (thn r fun us s1 ⟨vs, H1, I1, rv, hl, q⟩ => ?_)
  exact ⟨us, [], vs, H1, rfl, by rw [hn, ← hl, rv.length], rfl, by rw [List.append_nil]; exact rv, I1, q⟩
theorem SndK.kw {e : Expr} {es : List Expr} {kws : List Keyword} {t : E} {ts us0 : List E} {n : Nat} {ks : List Str} (ha : SndA R T cc Γ (e :: es) (t :: ts)) (hk : SndKw R T cc Γ kws us0) (hn : n = (t :: ts).length) (hks : ∀ pos env, (backToKw pos (keywordEach kws env)).filterMap (·.1) = ks := by intro _ _; rfl)
    (hl : us0.length = ks.length := by rfl) (hall : ∀ pos env, (backToKw pos (keywordEach kws env)).all (·.1.isSome) = true := by intro _ _; rfl) (he : ∀ env, starEach (e :: es) env = (false, eval e env) :: starEach es env := by intro _; rfl)
    (hpl : ∀ pos env, ((backTo pos (starEach (e :: es) env)).any (·.1) || (backToKw pos (keywordEach kws env)).any (·.1.isNone)) = false := by intro _ _; rfl) :
    SndK R T cc Γ (e :: es) kws ((t :: ts) ++ us0) n ks := by
  refine ⟨hpl, fun X W c tk f pos pins s σ H Q I h => ?_⟩
  have r := (ha X W c tk).run pos pins s σ H _ I (rdA_len (rdA_app h))
  refine PyProof.Rows.evalArgs_kw2 (hall pos X.env) (thn r fun us s1 ⟨vs, H1, I1, rv, hl1, q⟩ => ?_) (he X.env)
  refine thn ((hk X W c tk).run pos pins s1 σ H1 _ I1 (rdA_len q)) fun ws s2 ⟨zs, H2, I2, rz, hl2, q2⟩ => ?_
  rw [hks]
  exact ⟨us, ws, vs ++ zs, H2, rfl, by rw [hn, ← hl1, rv.length], by rw [← hl, ← hl2, rz.length], rv.append rz, I2, q2⟩
theorem SndK.kw0 {kws : List Keyword} {us0 : List E} {ks : List Str} (hk : SndKw R T cc Γ kws us0) (hks : ∀ pos env, (backToKw pos (keywordEach kws env)).filterMap (·.1) = ks := by intro _ _; rfl)
    (hl : us0.length = ks.length := by rfl) (hall : ∀ pos env, (backToKw pos (keywordEach kws env)).all (·.1.isSome) = true := by intro _ _; rfl) (hpl : ∀ pos env, ((backTo pos (starEach [] env)).any (·.1) || (backToKw pos (keywordEach kws env)).any (·.1.isNone)) = false := by intro _ _; rfl) :
    SndK R T cc Γ [] kws us0 0 ks := by
  refine ⟨hpl, fun X W c tk f pos pins s σ H Q I h => ?_⟩
  refine PyProof.Rows.evalArgs_kw2_nil (hall pos X.env) (thn ((hk X W c tk).run pos pins s σ H _ I (rdA_len h)) fun ws s2 ⟨zs, H2, I2, rz, hl2, q2⟩ => ?_)
  rw [hks]
  exact ⟨[], ws, zs, H2, rfl, rfl, by rw [← hl, ← hl2, rz.length], rz, I2, q2⟩

/-- how n values and the keywords ks come to the parameters -/
def bindB (R : RC) (x : Str) (ps : List Str) (n : Nat) (ks : List Str) : Bool := (ks.isEmpty && decide (n = ps.length)) || (R.kwt x).contains (n, ks)
theorem bindB_ok {k : Nat} {x : Str} {a : Addr} {fd : FuncData} {ps : List Str} {F : CloT → List D → G → Res} {n : Nat} {ks : List Str} (fa : FnA R T k a fd ps F) (hq : fd.qualname = x) (h : bindB R x ps n ks = true) : KwOk fd ps n ks := by
  simp only [bindB, Bool.or_eq_true, Bool.and_eq_true, decide_eq_true_eq, List.isEmpty_iff] at h
  rcases h with ⟨h1, h2⟩ | h
  · subst h1
    intro us ws e1 e2
    have : ws = [] := List.length_eq_zero_iff.mp e2
    subst this
    rw [List.append_nil]
    exact fa.bind us (e1.trans h2)
  · exact fa.kwb (n, ks) (by rw [hq]; simpa using h)
theorem SndE.callK {k : Nat} {x : Str} {ps : List Str} {F : CloT → List D → G → Res} {es : List Expr} {kws : List Keyword} {ts : List E} {n : Nat} {ks : List Str} {perm : List Nat} {p pos : Pos} (fs : FnS R T k x ps F) (hF : Γ.fn x = F) (hk : k ≤ cc.k) (hg : globB cc x = true)
    (ha : SndK R T cc Γ es kws ts n ks) (hp : perm = permK ps ts.length ks) (hn : n + ks.length = ts.length) (hb : bindB R x ps n ks = true) (hlen : (permL perm ts).length = ps.length) :
    SndE R T cc Γ (.Call (.Name x p) es kws pos) (.call x ts perm) := fun X W c tk => by
  obtain ⟨a, fd, hm, hkp, hqn, fa⟩ := fs.ex
  obtain ⟨h1, h2, h3⟩ := globB_ok c hg
  refine ⟨fun pins s σ H Q I h => ?_⟩
  have h' : rdE R T W (fun loc g => (denA Γ ts loc g).call fun ds g1 => F (Γ.sub loc) (permD perm ds) g1) σ H Q := by
    obtain ⟨ρ, loc, g, S, q⟩ := h
    unfold den at q
    rw [hF] at q
    exact ⟨ρ, loc, g, S, q⟩
  have h'' := rdA_callL (k := fun loc ds g1 => F (Γ.sub loc) (permD perm ds) g1) h'
  refine wpAny_Call_Name_kw (ld_glob I h1 (by rw [c.gx.mg]; exact hm) ?_ h2)
  refine PySem.W.callWith_of (ha.1 pos X.env) (PySem.W.keeps_K (K := X.K) (by rw [c.gx.K]; exact hkp)) (wpAny_mono (ha.2 X W c tk _ pos pins s σ H _ I h'') (fun b s1 hb' => ?_) fun _ _ z => z)
  obtain ⟨us, ws, vs, H1, rfl, l1, l2, rv, I1, ρ1, loc, ds, g1, hl, rr, S1, q⟩ := hb'
  refine ⟨I1.kIn, ?_⟩
  have eb := bindB_ok fa hqn hb us ws l1 l2
  rw [hn, ← hp] at eb
  exact call_runA c tk fa hk eb I1 S1 (permL_vals rv) (permL_reps rr) (by rw [permL_len (m := ts) hl]; exact hlen) q
/-- a function, or a lambda, that a name of ours holds -/
theorem SndE.cv {x : Str} {i : Nat} {es : List Expr} {kws : List Keyword} {ts : List E} {n : Nat} {ks : List Str} {p pos : Pos} (hs : slotB cc i x = true) (ha : SndK R T cc Γ es kws ts n ks) (hn : n + ks.length = ts.length) (hkc : R.kc ≤ cc.k)
    (hv : ∀ y, Γ.vals.contains y = true → ∃ (k : Nat) (F : CloT → List D → G → Res), FnS R T k y (Γ.par y) F ∧ Γ.fn y = F ∧ k ≤ cc.k)
    (hw : (Γ.vals.all fun y => !decide ((Γ.par y).length = ts.length) || !kwB (Γ.par y) ts.length ks || (bindB R y (Γ.par y) n ks && decide ((permL (permK (Γ.par y) ts.length ks) ts).length = (Γ.par y).length))) = true) :
    SndE R T cc Γ (.Call (.Name x p) es kws pos) (.cv (.v i) ts ks) := fun X W c tk => by
  obtain ⟨n1, n2, n3, n4⟩ := slotB_ok c hs
  refine ⟨fun pins s σ H Q I ⟨ρ, loc, g, S, q⟩ => ?_⟩
  unfold den at q
  rw [show den Γ (.v i) loc g = match loc[i]? with | some (some (false, d)) => .ok false d g | _ => .bad from by unfold den; rfl] at q
  have hd : ∃ d, loc[i]? = some (some (false, d)) := by
    split at q
    · exact ⟨_, by assumption⟩
    · exact q.elim
  obtain ⟨d, hd⟩ := hd
  rw [hd] at q
  dsimp only [Res.bind] at q
  obtain ⟨v, hσ, rv⟩ := S.sl i false d hd
  have rv' : Rep R ρ H d v := rv
  cases d
  case fn y =>
    cases rv' with
    | @fn y a0 hm0 =>
    have h'' := rdA_callL (k := fun loc' ds g1 => if (Γ.vals.contains y && decide ((Γ.par y).length = ts.length) && kwB (Γ.par y) ts.length ks) = true then Γ.fn y (Γ.sub loc') (permD (permK (Γ.par y) ts.length ks) ds) g1 else .bad) (show rdE R T W _ σ H Q from ⟨ρ, loc, g, S, q⟩)
    refine wpAny_Call_Name_kw (thn ((pe_var (pos := p) (i := i) n1 n2 n3 n4).run pins s σ H (fun v H1 => v = .ref a0 ∧ H1 = H) I ⟨.ref a0, hσ, rfl, rfl⟩) fun u s0 ⟨v0, H0, I0, r0, ev, eH⟩ => ?_)
    subst ev
    subst eH
    obtain rfl : u = Value.ref a0 := r0
    refine PySem.W.callWith_of (P := fun h => PySem.W.keepIn X.K (.ref a0) = true ∧ X.K.In h) (ha.1 pos X.env) (fun h z => PySem.W.keeps_K z.1 h z.2) (wpAny_mono (ha.2 X W c tk _ pos pins s0 σ H0 _ I0 h'') (fun b s1 hb' => ?_) fun _ _ z => z)
    obtain ⟨us, ws, vs, H1, rfl, l1, l2, rvs, I1, ρ1, loc1, ds, g1, hl, rr, S1, q1⟩ := hb'
    by_cases hy : (Γ.vals.contains y && decide ((Γ.par y).length = ts.length) && kwB (Γ.par y) ts.length ks) = true
    case neg => rw [if_neg hy] at q1; exact q1.elim
    rw [if_pos hy] at q1
    simp only [Bool.and_eq_true, decide_eq_true_eq] at hy
    obtain ⟨k, F, fs, hF, hk⟩ := hv y hy.1.1
    obtain ⟨a, fd, hm, hkp, hqn, fa⟩ := fs.ex
    rw [hm0] at hm; cases hm
    have hall := List.all_eq_true.mp hw y (by simpa using hy.1.1)
    simp only [hy.1.2, hy.2, decide_true, Bool.not_true, Bool.false_or, Bool.and_eq_true, decide_eq_true_eq] at hall
    refine ⟨⟨by rw [c.gx.K]; exact hkp, I1.kIn⟩, ?_⟩
    have eb := bindB_ok fa hqn hall.1 us ws l1 l2
    rw [hn] at eb
    rw [hF] at q1
    exact call_runA c tk fa hk eb I1 S1 (permL_vals rvs) (permL_reps rr) (by rw [permL_len (m := ts) hl]; exact hall.2.trans hy.1.2.symm) q1
  case clo id cs =>
    cases rv' with
    | @clo a0 o u id cs hH hob =>
    by_cases hks : ks.isEmpty = true
    case neg =>
      have h'' := rdA_callL (k := fun loc' ds g1 => if ks.isEmpty = true then Γ.sub loc' id cs ds g1 else .bad) (show rdE R T W _ σ H Q from ⟨ρ, loc, g, S, q⟩)
      refine wpAny_Call_Name_kw (thn ((pe_var (pos := p) (i := i) n1 n2 n3 n4).run pins s σ H (fun v H1 => v = .ref a0 ∧ H1 = H) I ⟨.ref a0, hσ, rfl, rfl⟩) fun u s0 ⟨v0, H0, I0, r0, ev, eH⟩ => ?_)
      subst ev
      subst eH
      obtain rfl : u = Value.ref a0 := r0
      refine PySem.W.callWith_of (P := fun h => False) (ha.1 pos X.env) (fun h z => z.elim) (wpAny_mono (ha.2 X W c tk _ pos pins s0 σ H0 _ I0 h'') (fun b s1 hb' => ?_) fun _ _ z => z)
      obtain ⟨us, ws, vs, H1, rfl, l1, l2, rvs, I1, ρ1, loc1, ds, g1, hl, rr, S1, q1⟩ := hb'
      rw [if_neg hks] at q1
      exact q1.elim
    case pos =>
    have hks' : ks = [] := by simpa using hks
    subst hks'
    have h'' := rdA_callL (k := fun loc' ds g1 => Γ.sub loc' id cs ds g1) (show rdE R T W _ σ H Q from ⟨ρ, loc, g, S, q⟩)
    -- the closure's object stands behind the arguments too
    have h3 : rdA R T W (denA Γ ts) σ H fun vs H1 => H1 a0 = some (.frz o u) ∧ ∃ ρ1 loc1 ds g1, ds.length = ts.length ∧ Reps R ρ1 H1 ds vs ∧ SR R T ρ1 H1 loc1 g1 σ ∧ Rep R ρ1 H1 (.clo id cs) (.ref a0) ∧ Ans R T ρ1 H1 (Γ.sub loc1 id cs ds g1) Q (fun c dx H' => W c dx σ H') := by
      refine ⟨ρ, loc, g, S, ?_⟩
      cases e : denA Γ ts loc g with
      | bad => rw [e] at q; exact q
      | ex c' fs g' => rw [e] at q; exact q
      | ok as g' =>
        rw [e] at q
        dsimp only [ResA.call] at q
        intro ρ' vs H' st av
        have ee := st.ext S.gr
        refine ⟨ee _ _ hH rfl, ?_⟩
        cases e2 : plainArgs as with
        | none => rw [e2] at q; exact q.elim
        | some ds =>
          rw [e2] at q
          exact ⟨ρ', loc, ds, g', by rw [plain_len e2, denA_len e], plain_val av e2, st.sr S, .clo (ee _ _ hH rfl) (hob.ext ee), Ans.step st q⟩
    refine wpAny_Call_Name_kw (thn ((pe_var (pos := p) (i := i) n1 n2 n3 n4).run pins s σ H (fun v H1 => v = .ref a0 ∧ H1 = H) I ⟨.ref a0, hσ, rfl, rfl⟩) fun u s0 ⟨v0, H0, I0, r0, ev, eH⟩ => ?_)
    subst ev
    subst eH
    obtain rfl : u = Value.ref a0 := r0
    refine PySem.W.callWith_of (P := PySem.W.FnAt a0) (ha.1 pos X.env) PySem.W.keeps_F (wpAny_mono (ha.2 X W c tk _ pos pins s0 σ H0 _ I0 h3) (fun b s1 hb' => ?_) fun _ _ z => z)
    obtain ⟨us, ws, vs, H1, rfl, l1, l2, rvs, I1, hH1, ρ1, loc1, ds, g1, hl, rr, S1, rc, q1⟩ := hb'
    have : ws = [] := List.length_eq_zero_iff.mp l2
    subst this
    rw [List.append_nil] at rvs
    obtain ⟨ho, _⟩ := (show ObjOk X.prog X.w H1 s1.heap a0 (.frz o u) from I1.hok a0 _ hH1)
    obtain ⟨L, cells, pm, c', ctv, oc, e1, e2, e3, e4⟩ := hob
    refine ⟨⟨_, _, _, _, by rw [ho, e2]⟩, ?_⟩
    have e0 := I1.env0
    rw [c.gx.prog, c.gx.w, c.gx.K, c.gx.mg, c.gx.base] at e0
    have r := c.clo pins s1 σ H1 ρ1 loc1 g1 I1 S1 id cs ds g1 ρ1 H1 s1 X.A X.stack a0 us vs Q (fun c dx H' => W c dx σ H') (Un.kept fun b o z => z) e0 (c.room.mono hkc) c.gx.ga S1.gr rc rr rvs q1
    rw [← c.gx.prog, ← c.gx.w] at r
    show wpAny _ _ (PySem.call (.ref a0) us []) _ _ _
    refine wpAny_call (codeAny_mono r fun r s' hq => ?_)
    cases r with
    | error e => exact passAt tk σ pins H1 s1 e s' I1 hq
    | ok fl =>
      cases fl with
      | ret u => exact I1.after hq
      | next => exact False.elim hq
      | brk => exact False.elim hq
      | cont => exact False.elim hq
  all_goals
    have h'' := rdA_callL (k := fun loc' ds g1 => .bad) (show rdE R T W _ σ H Q from ⟨ρ, loc, g, S, q⟩)
    refine wpAny_Call_Name_kw (thn ((pe_var (pos := p) (i := i) n1 n2 n3 n4).run pins s σ H (fun v1 H1 => v1 = v ∧ H1 = H) I ⟨v, hσ, rfl, rfl⟩) fun u s0 ⟨v0, H0, I0, r0, ev, eH⟩ => ?_)
    subst ev
    subst eH
    refine PySem.W.callWith_of (P := fun h => False) (ha.1 pos X.env) (fun h z => z.elim) (wpAny_mono (ha.2 X W c tk _ pos pins s0 σ H0 _ I0 h'') (fun b s1 hb' => ?_) fun _ _ z => z)
    obtain ⟨us, ws, vs, H1, rfl, l1, l2, rvs, I1, ρ1, loc1, ds, g1, hl, rr, S1, q1⟩ := hb'
    exact q1.elim
end
end PyD
end
section
set_option Elab.async false
set_option linter.all false
set_option maxRecDepth 100000
set_option maxHeartbeats 4000000
namespace PyD
open PySem PySem.Spec PyProof.Rows L2
section
variable {R : RC} {T : Tab} {cc : CC} {Γ : Env'}
theorem SR.unset {ρ : List (List Addr)} {H : Hp} {loc : Loc} {g : G} {σ : L2.St} (S : SR R T ρ H loc g σ) (n : Nat) : SR R T ρ H (loc.set n none) g (σ.set n none) := S.weak (by simpa using S.len) fun i x h => by
  by_cases z : i = n
  · subst z
    by_cases hl : i < loc.length
    · rw [List.getElem?_set_self hl] at h; cases h
    · rw [List.getElem?_eq_none (by simpa using hl)] at h; cases h
  · rw [List.getElem?_set_ne (Ne.symm z)] at h
    exact ⟨h, List.getElem?_set_ne (Ne.symm z)⟩
/-- which errors a clause takes -/
def ErrsOk (R : RC) (x : Str) (errs : List Str) : Prop := ∃ CE : Addr, R.mg x = some (.ref CE) ∧ ∀ c' C', errs.contains c' = true → R.mg c' = some (.ref C') → PySem.W.exmOne R.K (.ref C') (.ref CE) = some true
theorem SndS.catch {x nm z : Str} {i n : Nat} {e : Expr} {te : E} {p1 np q1 q2 q3 q4 pos : Pos} (hn : slotB cc n nm = true) (hz : slotB cc i z = true) (hl1 : cc.sc.names.lookup nm = some .local) (hl2 : cc.sc.names.lookup z = some .local) (hin : i ≠ n) (hg : globB cc x = true) (he0 : ErrsOk R x Γ.errs)
    (he : SndE R T cc Γ e te) (hsw : ∀ env, swapsWith e none p1.line env = pure false := by intro _; rfl) :
    SndS R T cc Γ (.Try [.Expr e p1] [.ExceptHandler (some (.Name x np)) (some nm) [.Assign [.Name z q1] (.Name nm q2) q3] q4] [] [] pos) (.catch i n te) := fun X W ρ0 H0 c tp ns tk hp => by
  obtain ⟨n1, n2, n3, n4⟩ := slotB_ok c hn
  obtain ⟨z1, _, _, _⟩ := slotB_ok c hz
  obtain ⟨g1, g2, g3⟩ := globB_ok c hg
  obtain ⟨CE, hm, hex⟩ := he0
  obtain ⟨f1, f2⟩ := c.frame tp
  refine PS.imp (ps_catch (c := .ref CE) (te := fun W => rdE R T W (fun loc g => (den Γ te loc g).frz)) f1 f2 (c.ex tp) c.gx.nd n1 z1 hin (by show X.env.scope.names.lookup nm = _; rw [c.sc]; exact hl1) (by show X.env.scope.names.lookup z = _; rw [c.sc]; exact hl2) ⟨g1, g2, .inl (by rw [c.gx.mg]; exact hm)⟩ tk n3 n4
    (fun W pn xe tk' => pe_frz (he (X.tr pn xe) W (c.tr pn xe) tk')) (hsw X.env)) fun D σ H ⟨ρ, loc, g, S, st, fr, q⟩ => ?_
  refine ⟨ρ, loc, g, S, ?_⟩
  simp only [exe] at q
  dsimp only
  cases e1 : den Γ te loc g with
  | bad => rw [e1] at q; exact q
  | ok own d g' =>
    rw [e1] at q
    intro ρ' v H' st' rv _
    exact AnsS.nx_ok (AnsS.step (st'.ext S.gr) st'.n.1 q) (st'.sr S) (st.trans st') fr
  | ex c' fs g' =>
    rw [e1] at q
    dsimp only at q
    intro ρ' C dx H' st' hmC hx
    by_cases hc : Γ.errs.contains c' = true
    case neg => rw [if_neg hc] at q; exact q.elim
    rw [if_pos hc] at q
    refine ⟨true, by rw [c.gx.K]; exact hex c' C hc hmC, fun _ a o u ha hcl hdi hda => ?_, fun z => by cases z⟩
    have nw := Stp.new (o := .frz o u) st'.x ha
    have S2 := (nw.sr (st'.sr S)).unset n
    have rp : Rep R ρ' (upd H' a (.frz o u)) (.exc c' fs) (.ref a) := by
      cases dx with
      | none =>
        have hx' : fs = [] := hx
        subst hx'
        exact .excN upd_same hcl hdi hda hmC
      | some d =>
        obtain ⟨ks, k1, k2⟩ := hx
        exact .exc upd_same hcl hdi hda (by rw [upd_ne (ne_of_none k1 ha)]; exact k1) hmC (RepF.ext (RExt.refl _) (nw.ext st'.x) k2)
    have S3 := S2.set (i := i) rp
    have e' : Ext H (upd H' a (.frz o u)) := (st'.ext S.gr).trans (nw.ext st'.x)
    refine AnsS.nx_ok (AnsS.step e' st'.n.1 q) S3 ((st.trans st').trans nw) ?_
    intro j d b h1 h2
    have hj : j ≠ i := fun y => by
      subst y
      by_cases hl : j < (loc.set n none).length
      · rw [List.getElem?_set_self hl] at h1; cases h1
      · rw [List.getElem?_eq_none (by simpa using hl)] at h1; cases h1
    rw [List.getElem?_set_ne (Ne.symm hj)] at h1 h2
    have hj2 : j ≠ n := fun y => by
      subst y
      by_cases hl : j < loc.length
      · rw [List.getElem?_set_self hl] at h1; cases h1
      · rw [List.getElem?_eq_none (by simpa using hl)] at h1; cases h1
    rw [List.getElem?_set_ne (Ne.symm hj2)] at h1 h2
    exact fr j d b h1 h2
theorem SndE.edic {pos : Pos} : SndE R T cc Γ (.Dict [] [] pos) .edic := fun X W c tk => by
  refine ⟨fun pins s σ H Q I ⟨ρ, loc, g, S, q⟩ => ?_⟩
  unfold den at q
  refine thn (pe_dnewK.run pins s σ H (fun v H1 => ∃ d, v = .ref d ∧ H d = none ∧ H1 = upd H d (.dK [])) I ?_) fun u s1 ⟨v, H1, I1, r1, d, ev, hd, eH⟩ => ?_
  · intro d hd
    exact ⟨d, rfl, hd, rfl⟩
  · subst ev
    subst eH
    obtain ⟨o, J⟩ := Inv.frz I1 (upd_same) trivial
    have e : upd (upd H d (.dK [])) d (.frz o (.dK [])) = upd H d (.frz o (.dK [])) := by
      funext b
      by_cases hb : b = d
      · rw [hb, upd_same, upd_same]
      · rw [upd_ne hb, upd_ne hb, upd_ne hb]
    rw [e] at J
    have nw := Stp.new (o := .frz o (.dK [])) S.gr hd
    exact ⟨.ref d, _, J, r1, q ρ (.ref d) _ nw (.dic upd_same .nil) fun z => by cases z⟩
theorem fob_any {K : PySem.W.Frag} {C : Addr} {od : Option Obj} {name : Str} {a y : Value} (hc : (PySem.W.clsIn K C).isSome = true) (ha : PySem.W.findIn K (.ref C) name = some (some a)) (hg : PySem.W.specialIn K a "__get__" = some (some y)) (ht : PySem.W.takesIn K a = some true) : PySem.W.findObj K C od name = some (.bind y a) := by
  obtain ⟨cd, hc⟩ := Option.isSome_iff_exists.mp hc
  unfold PySem.W.findObj
  rw [hc, Option.bind_some, ha, Option.bind_some]
  simp [hg, ht]
end
end PyD
namespace PyD
open PySem PySem.W PySem.Spec PySem.Calls PyProof.Rows
section
variable {prog : Program} {w : World} {A : Around} {E : Value → Shared → Prop} {s : Shared} {K : Frag} {x D : Addr} {ox : Obj} {od : Option Obj}
/-- the class of an error with or without a dict, asked by isinstance -/
theorem err_class {Q : Option Value → Shared → Prop} (C : L2.ExcC K D) (X : K.In s.heap) (I : InstAt s.heap x ox D od) (h : Q (some (.ref D)) { s with toks := s.toks + 1 }) : wpAny (model prog w) A (getAttr? (.ref x) "__class__") Q E s := by
  have fo : findObj K D od "__class__" = some (.bind (.builtin "getset_descriptor.__get__") (.builtin "object.__class__")) := fob_any (by obtain ⟨cd, hc, _⟩ := any_some C.hd; rw [hc]; rfl) C.ha C.hn C.ht
  obtain ⟨hh, gg, dr, tt, os⟩ := s
  have K0 := I.type (M := model prog w)
  have K1 := looks_findIn (M := model prog w) X C.hg
  have K2 := looks_findIn (M := model prog w) X C.hk
  have K3 := looks_find (M := model prog w) X I fo
  have below : Looks (model prog w) hh (isInstance (.ref x) (.type "BaseException")) true := K0.andThen (looks_subIn X C.hs)
  have y0 : (false && onTheHeap (Value.builtin "BaseException.__getattribute__")) = false := rfl
  have y2 : (Value.builtin "BaseException.__getattribute__" == Value.builtin "object.__getattribute__") = false := by decide +kernel
  have y1 : (onTheHeap (Value.ref D) && Value.builtin "BaseException.__getattribute__" == Value.builtin "object.__getattribute__") = false := by rw [y2]; rfl
  unfold getAttr? getAttrBy? getAttrBy
  refine wpAny_bind (wpAny_mkText (wpAny_bind (wpAny_attempt (wpAny_holding (wpAny_bind (K0.at (wpAny_bind (K1.at ?_))))))))
  show wpAny _ _ (if (onTheHeap (Value.ref D) && Value.builtin "BaseException.__getattribute__" == Value.builtin "object.__getattribute__") = true then _ else _) _ _ _
  rw [y1, if_neg Bool.false_ne_true]
  unfold getAttrByItsOwn hookBefore
  refine wpAny_bind ?_
  rw [if_pos (show onTheHeap (Value.ref D) = true from rfl)]
  refine K2.at ?_
  refine wpAny_bind (wpAny_attempt (wpAny_holding ?_))
  unfold callGetattribute
  rw [y0, if_neg Bool.false_ne_true]
  unfold boundAndCalled
  rw [PySem.F.excAttr_ValueError.ga.bind (.ref x)]
  refine wpAny_bind (wpAny_pure ?_)
  show wpAny _ _ (call (.builtin "BaseException.__getattribute__") [.ref x, .str "__class__" tt]) _ _ _
  refine wpAny_call (codeAny_call_builtin PySem.F.excAttr_ValueError.ga.plain PySem.F.entry_bexc_ga ?_)
  refine @check_slot (model prog w) _ _ ⟨hh, gg, dr, tt + 1, os⟩ "BaseException.__getattribute__" "BaseException" "__getattribute__" (.ref x) [.str "__class__" tt] [] _ (by decide +kernel) (by decide +kernel) below (PySem.F.args_bexc_ga (.ref x) (.str "__class__" tt)) ?_
  unfold Builtin.«object.__getattribute__»
  refine wpAny_bind (wpAny_of_eq (a := ((Value.ref x : Value), [Value.str "__class__" tt])) (by first | rfl | (simp only [slotArgs]; rfl)) ?_)
  refine wpAny_bind (wpAny_pure (wpAny_bind (K0.at (wpAny_bind (K3.at ?_)))))
  show wpAny _ _ (holding [Value.builtin "object.__class__"] (call (.builtin "getset_descriptor.__get__") [.builtin "object.__class__", .ref x, .ref D]) >>= ret) _ _ _
  refine wpAny_bind (wpAny_holding (wpAny_call (class_get (s := ⟨hh, gg, dr, tt + 1, os⟩) (ox := ox) (od := od) X I C.hm ?_)))
  refine wpAny_pure ?_
  show wpAny _ _ (handedOut (.ref D)) _ _ _
  rw [handedOut_of (v := .ref D) rfl]
  first
    | exact wpAny_pure (wpAny_pure h)
    | exact wpAny_pure h
    | exact wpAny_pure (wpAny_bind (wpAny_pure (wpAny_pure h)))
theorem err_kit (C : L2.ExcC K D) : KitX K (.ref x) (.ref D) (fun h => InstAt h x ox D od) where
  ty := fun _ _ _ I => I.type
  it := fun _ _ X _ => by
    obtain ⟨cd, hc, _⟩ := any_some C.hd
    unfold clsIn at hc
    split at hc
    · rename_i c2 d2 cd2 sl2 ho
      intro A' Q' E' s' k q
      unfold isType loadHead
      exact wpAny_bind (wpAny_loadPart (k _ _ (X _ _ ho)) (wpAny_pure q))
    · cases hc
  ne := fun h tp dd its n sl X htp => by
    obtain ⟨cd, hc, _⟩ := any_some C.hd
    refine Bool.eq_false_iff.mpr fun y => ?_
    have e : D = tp := Value.ref.inj (beq_iff_eq.mp y)
    subst e
    unfold clsIn at hc
    split at hc
    · rename_i c2 d2 cd2 sl2 ho
      have z := (X _ _ ho).symm.trans htp
      cases z
    · cases hc
  ca := fun X I k => err_class C X I k
end
end PyD
end
section
set_option Elab.async false
set_option linter.all false
set_option maxRecDepth 100000
set_option maxHeartbeats 4000000
namespace PyD
open PySem PySem.Spec PyProof.Rows L2
section
variable {R : RC} {T : Tab} {cc : CC} {Γ : Env'}
/-- what the class at C must say of its instances, so that isinstance asks them rightly -/
structure InsC (K : PySem.W.Frag) (C : Addr) : Prop where
  cl : Cls K C
  ha : PySem.W.findIn K (.ref C) "__class__" = some (some (.builtin "object.__class__"))
  hn : PySem.W.specialIn K (.builtin "object.__class__") "__get__" = some (some (.builtin "getset_descriptor.__get__"))
  ht : PySem.W.takesIn K (.builtin "object.__class__") = some true
  hm : PySem.W.mroIn K C (.type "object") = some true
theorem ins_at {X : Cx} {pins : List (Addr × Obj)} {σ : L2.St} {H : Hp} {s : Shared} {a C dx : Addr} {ks : List (Str × V)} {o : Obj} (I : L2.Inv X pins σ H s) (e : H a = some (.frz o (.ins C dx ks))) : ∃ ox od, PySem.W.InstAt s.heap a ox C (some od) := by
  obtain ⟨_, d, z, ne, ob, mA, nn, r, q⟩ := (show ObjOk X.prog X.w H s.heap a (.frz o (.ins C dx ks)) from I.hok a _ e)
  have O : s.heap.get? a = some (PySem.W.instObj C dx) := ob
  obtain ⟨od, ho, _⟩ := lookIn_ns nn
  exact ⟨_, od, O, rfl, rfl, ho⟩
theorem exc_at {X : Cx} {pins : List (Addr × Obj)} {σ : L2.St} {H : Hp} {s : Shared} {a C : Addr} {u : HO} {o : Obj} (I : L2.Inv X pins σ H s) (e : H a = some (.frz o u)) (hc : o.cls = .ref C) (hd : ∃ xs, o.data = .fields xs) (hx : o.dict = none ∨ ∃ d ks, o.dict = some d ∧ H d = some (.xd ks)) :
    ∃ od, PySem.W.InstAt s.heap a o C od := by
  obtain ⟨ho, _⟩ := (show ObjOk X.prog X.w H s.heap a (.frz o u) from I.hok a _ e)
  obtain ⟨oc, odd, odt, osl⟩ := o
  obtain ⟨xs, hd⟩ := hd
  simp only at hc hd hx
  subst hc hd
  rcases hx with hx | ⟨d, ks, hx, hk⟩
  · subst hx
    exact ⟨none, ho, rfl, rfl, trivial⟩
  · subst hx
    obtain ⟨mA, hns, _⟩ := (show ObjOk X.prog X.w H s.heap d (.xd ks) from I.hok d _ hk)
    obtain ⟨od, hod, _⟩ := lookIn_ns hns
    exact ⟨some od, ho, rfl, rfl, hod⟩
/-- what isinstance(x, c) is asked of -/
structure IscK (R : RC) (Γ : Env') (c : Str) (C : Addr) : Prop where
  ins : ∀ c' b C', Γ.below c' c = some b → R.mg c' = some (.ref C') → InsC R.K C' ∧ PySem.W.kitOne R.K (.ref C') (.ref C) = some b
  exc : ∀ c' b C', Γ.belowX c' c = some b → R.mg c' = some (.ref C') → ExcC R.K C' ∧ PySem.W.kitOne R.K (.ref C') (.ref C) = some b
  ty : ∀ t ∈ ["NoneType", "bool", "int", "str", "tuple", "list", "dict"], PySem.W.kitOne R.K (.type t) (.ref C) = some false
theorem call_isc {X : Cx} {c : Str} {C : Addr} (gx : GX R X) (k : IscK R Γ c C) : CallR X (.builtin "isinstance") (fun vs H Q => ∃ (ρ : List (List Addr)) (x : V) (d : D) (b : Bool), vs = [x, .ref C] ∧ Rep R ρ H d x ∧ iscD Γ.below Γ.belowX c d = some b ∧ Q (.bl b) H) := by
  intro pins s σ H vs us Q I r h
  obtain ⟨ρ, x, d, b, rfl, rp, hb, q⟩ := h
  obtain ⟨u1, u2, rfl, l1, l2⟩ := vals2 r
  obtain rfl : u2 = Value.ref C := l2
  have other : ∀ t, tyD d = some t → b = false → wpAny (model X.prog X.w) X.A (PySem.call (.builtin "isinstance") [u1, .ref C]) (EP X pins σ Q) X.xe s := fun t ht hb0 => by
    obtain ⟨Pz, Z, pz, hx⟩ := kit_of I l1 (gx.K ▸ tyX_of ht (.inl rp))
    subst hb0
    exact PySem.W.kia_one Z I.kIn pz (by rw [gx.K]; exact k.ty t (tyD_mem ht)) hx fun tk => ⟨.bl _, H, I.tok tk, rfl, q⟩
  cases d
  case ins c' fs =>
    cases rp with
    | @ins a C' dx o _ _ ks h1 hm rf =>
      obtain ⟨k1, k2⟩ := k.ins c' b C' hb hm
      obtain rfl : u1 = Value.ref a := l1
      obtain ⟨ox, od, J⟩ := ins_at I h1
      exact PySem.W.kia_one (PySem.W.kitx_own ((gx.K ▸ k1.cl).get _) (gx.K ▸ k1.cl).hd (gx.K ▸ k1.ha) (gx.K ▸ k1.hn) (gx.K ▸ k1.ht) (gx.K ▸ k1.hm)) I.kIn J (by rw [gx.K]; exact k2) (fun z => nomatch z) fun tk => ⟨.bl _, H, I.tok tk, rfl, q⟩
  case exc c' fs =>
    have fin : ∀ (a C' : Addr) (o : Obj) (u : HO), x = .ref a → R.mg c' = some (.ref C') → H a = some (.frz o u) → o.cls = .ref C' → (∃ xs, o.data = .fields xs) → (o.dict = none ∨ ∃ d ks, o.dict = some d ∧ H d = some (.xd ks)) →
        wpAny (model X.prog X.w) X.A (PySem.call (.builtin "isinstance") [u1, .ref C]) (EP X pins σ Q) X.xe s := fun a C' o u ex hm h1 h2 h4 h3 => by
      subst ex
      obtain ⟨k1, k2⟩ := k.exc c' b C' hb hm
      obtain rfl : u1 = Value.ref a := l1
      obtain ⟨od, J⟩ := exc_at I h1 h2 h4 h3
      exact PySem.W.kia_one (err_kit (gx.K ▸ k1)) I.kIn J (by rw [gx.K]; exact k2) (fun z => nomatch z) fun tk => ⟨.bl _, H, I.tok tk, rfl, q⟩
    cases rp with
    | @exc a C' dx o u _ _ ks h1 h2 h3 h4 h5 hm rf => exact fin a C' o u rfl hm h1 h2 h4 (.inr ⟨dx, ks, h3, h5⟩)
    | @excN a C' o u _ h1 h2 h3 h4 hm => exact fin a C' o u rfl hm h1 h2 h4 (.inl h3)
  all_goals
    simp only [iscD, tyD, Option.isSome_some, Option.isSome_none, if_true, Bool.false_eq_true, if_false] at hb
    first
      | (cases hb; done)
      | (cases hb; exact other _ rfl rfl)
theorem SndE.isc {x c : Str} {a : Expr} {ea : E} {p p2 pos : Pos} {C : Addr} (hgi : globB cc x = true) (hmi : R.mg x = none) (hv : bootBuiltins x = some (.builtin "isinstance")) (hgc : globB cc c = true) (hmc : R.mg c = some (.ref C)) (k : IscK R Γ c C) (ha : SndE R T cc Γ a ea)
    (he : ∀ env, starEach [a, .Name c p2] env = (false, eval a env) :: starEach [.Name c p2] env := by intro _; rfl) (he2 : ∀ env, starEach [.Name c p2] env = (false, eval (.Name c p2) env) :: starEach [] env := by intro _; rfl) (hpl : ∀ env, (backTo pos (starEach [.Name c p2] env)).any (·.1) = false := by intro _; rfl) :
    SndE R T cc Γ (.Call (.Name x p) [a, .Name c p2] [] pos) (.isc ea c) := fun X W cx tk => by
  obtain ⟨i1, i2, i3⟩ := globB_ok cx hgi
  obtain ⟨c1, c2, c3⟩ := globB_ok cx hgc
  refine PE.imp (pe_callB (call_isc cx.gx k) i1 (by rw [cx.gx.mg]; exact hmi) hv (pa_cons (pe_frz (ha X W cx tk)) (pa_cons (pe_glob (v := .ref C) c1 (by rw [cx.gx.mg]; exact hmc) rfl c2) pa_nil (he2 X.env)) (he X.env)) i3 i2 (he X.env) (hpl X.env)) fun σ H Q ⟨ρ, loc, g, S, q⟩ => ?_
  unfold den at q
  refine ⟨ρ, loc, g, S, ?_⟩
  dsimp only
  cases e1 : den Γ ea loc g with
  | bad => rw [e1] at q; exact q
  | ex c' fs g' => rw [e1] at q; exact q
  | ok own d g' =>
    rw [e1] at q
    dsimp only [Res.bind] at q
    intro ρ' v H' st rv _
    cases hb : iscD Γ.below Γ.belowX c d with
    | none => rw [hb] at q; exact q.elim
    | some b =>
      rw [hb] at q
      exact ⟨ρ', v, d, b, rfl, rv, hb, q ρ' (.bl b) H' st (.bl b) fun z => by cases z⟩
theorem in1_guards {A : Around} (h : A.guards = some []) : A.in1.guards = some [] := by
  first | exact h | (simp [Around.in1, h])
theorem ns_get {K : PySem.W.Frag} {h : Heap} {N : Addr} {mp : Str → Option Value} {n : Str} {v : Value} (X : K.In h) (G : h.Ns N mp) (e : PySem.W.nsIn K N n = some (some v)) : mp n = some v := by
  obtain ⟨o, es, ep, ho, hd, _, hf⟩ := G
  unfold PySem.W.nsIn at e
  split at e
  · rename_i c d es' n' sl q
    have z := X _ _ q
    rw [ho] at z
    cases z
    cases hd
    split at e
    · rename_i en hen
      cases e
      rw [← hf]
      unfold nsFind findBy
      rw [← Array.find?_toList, hen]
      rfl
    · split at e <;> cases e
  · cases e
structure EqC (R : RC) (T : Tab) (k : Nat) (c : Str) (F : CloT → List D → G → Res) : Prop where
  ex : ∃ (C f : Addr) (fd : FuncData) (p0 p1 : Str), R.mg c = some (.ref C) ∧ PySem.W.findIn R.K (.ref C) "__eq__" = some (some (.ref f)) ∧ PySem.W.isFn R.K (.ref f) = true ∧ FnA R T k f fd [p0, p1] F ∧
    ∃ (of : Obj) (nm q : Str) (N : Addr) (bs : List Value) (hdct : Bool) (sn : List Str) (sub : List Value) (ab : Bool) (col : Option Bool) (dd : Option Addr) (k0 k1 k2 k3 k5 : Option Value) (newId : String),
      R.K.lookup C = some (excClassObj nm q C N bs [.type "object"] hdct sn sub ab col dd k0 k1 k2 k3 k5 newId) ∧ PySem.W.nsOkIn R.K N = true ∧ PySem.W.nsIn R.K N "__eq__" = some (some (.ref f)) ∧ PySem.W.nsIn R.K N "__ne__" = some none ∧ R.K.lookup f = some of ∧ of.cls = .type "function"
theorem SndE.eqi {neg : Bool} {a b : Expr} {ea eb : E} {op : CmpOp} {pos : Pos} (hop : op = if neg then .NotEq else .Eq) (hq : ∀ c, Γ.eqs.contains c = true → ∃ k F, EqC R T k c F ∧ Γ.fn (c ++ ".__eq__") = F ∧ k + 1 ≤ cc.k)
    (ha : SndE R T cc Γ a ea) (hb : SndE R T cc Γ b eb) (hm : behindInMarks op b = false := by rfl) : SndE R T cc Γ (.Compare a [op] [b] pos) (.eqi neg ea eb) := fun X W cx tk => by
  refine ⟨fun pins s σ H Q I ⟨ρ, loc, g, S, q⟩ => ?_⟩
  unfold den at q
  have hbd := rd_bind (f := den Γ ea) (k := fun loc x g1 => (den Γ eb loc g1).bind fun y g2 => eqiK Γ neg loc x y g2) ⟨ρ, loc, g, S, q⟩
  refine wpAny_Compare1 (thn ((pe_frz (ha X W cx tk)).run pins s σ H _ I hbd) fun u1 s1 ⟨x1, H1, I1, l1, ρ1, loc1, d1, g1, r1, S1, a1⟩ => ?_) hm
  refine thn ((pe_frz (hb X W cx tk)).run pins s1 σ H1 (fun w H2 => ∃ (ρ2 : List (List Addr)) (d2 : D) (g2 : G), Stp R T ρ1 ρ2 H1 H2 g2 ∧ Rep R ρ2 H2 d2 w ∧ SR R T ρ2 H2 loc1 g2 σ ∧ Ans R T ρ2 H2 (eqiK Γ neg loc1 d1 d2 g2) Q (fun c dx H' => W c dx σ H')) I1 ⟨ρ1, loc1, g1, S1, Ans.bind' S1 a1⟩) fun u2 s2 ⟨x2, H2, I2, l2, ρ2, d2, g2, st2, r2, S2, a2⟩ => ?_
  have r1' := Rep.ext st2.n.1 (st2.ext S1.gr) r1
  obtain ⟨c, fs, rfl⟩ : ∃ c fs, d1 = .ins c fs := by cases d1 <;> first | exact ⟨_, _, rfl⟩ | exact a2.elim
  obtain ⟨c', gs, rfl⟩ : ∃ c' gs, d2 = .ins c' gs := by cases d2 <;> first | exact ⟨_, _, rfl⟩ | exact a2.elim
  dsimp only [eqiK] at a2
  by_cases hc : (Γ.eqs.contains c && decide (c = c')) = true
  case neg => rw [if_neg hc] at a2; exact a2.elim
  rw [if_pos hc] at a2
  simp only [Bool.and_eq_true, decide_eq_true_eq] at hc
  obtain ⟨hc1, rfl⟩ := hc
  obtain ⟨k, F, E1, hF, hk⟩ := hq c hc1
  obtain ⟨C, f, fd, p0, p1, hm0, hfi, hfn, fa, of, nm, qn, N, bs, hdct, sn, sub, ab, col, dd, k0, k1, k2, k3, k5, newId, hC, hok, hEq, hNe, hof, hofc⟩ := E1.ex
  rw [hF] at a2
  have R1 := r1'
  have R2 := r2
  cases r1' with
  | @ins a C1 dx1 o1 _ _ ks1 h1 hm1 rf1 =>
  cases r2 with
  | @ins b C2 dx2 o2 _ _ ks2 h2 hm2 rf2 =>
  rw [hm0] at hm1; cases hm1
  rw [hm0] at hm2; cases hm2
  obtain rfl : u1 = Value.ref a := l1
  obtain rfl : u2 = Value.ref b := l2
  obtain ⟨ox1, od1, J1⟩ := ins_at I2 h1
  obtain ⟨ox2, od2, J2⟩ := ins_at I2 h2
  have KX : R.K.In s2.heap := by rw [← cx.gx.K]; exact I2.kIn
  -- the call of __eq__
  have own_call : ∀ A' : Around, Room k A' → A'.guards = some [] → A'.frames = X.A.frames → wpAny (model X.prog X.w) A' (PySem.call (.ref f) [.ref a, .ref b]) (fun v s' => ∃ (t : Bool) (H' : Hp), v = .bool t ∧ L2.Inv X pins σ H' s' ∧ Q (.bl (if neg then !t else t)) H') X.xe s2 := fun A' hr hg hfr => by
    have e0 : Env0 R.P R.w R.K R.mg R.base A' X.stack s2 H2 := by
      have e := I2.env0
      rw [cx.gx.prog, cx.gx.w, cx.gx.K, cx.gx.mg, cx.gx.base] at e
      exact ⟨by rw [hfr]; exact e.frames, e.mod, e.bs, e.bsz, e.funs, e.frf, e.hok, e.bare⟩
    have key : Ans R T ρ2 H2 (F (Γ.sub loc1) [.ins c fs, .ins c gs] g2) (fun v H' => ∃ t : Bool, v = .bl t ∧ Q (.bl (if neg then !t else t)) H') (fun c dx H' => W c dx σ H') := by
      cases eF : F (Γ.sub loc1) [.ins c fs, .ins c gs] g2 with
      | bad => rw [eF] at a2; exact a2
      | ex c2 fs2 g' => rw [eF] at a2; exact a2
      | ok own d g' =>
        rw [eF] at a2
        dsimp only [Res.bind] at a2
        cases d <;> first | (exact a2.elim; done) | skip
        rename_i t
        intro ρ' v H' st rv _
        have ev : v = .bl t := by
          cases own with
          | false => have z : Rep R ρ' H' (.bl t) v := rv; cases z; rfl
          | true => have z : RepO R ρ' H' (.bl t) v := rv; cases z
        subst ev
        exact ⟨t, rfl, a2 ρ' _ H' st (.bl _) fun z => by cases z⟩
    have r := fa.run A' X.stack s2 H2 ⟨[.ref a, .ref b], []⟩ [.ref a, .ref b] [.ref a, .ref b] ρ2 g2 [.ins c fs, .ins c gs] (Γ.sub loc1) _ _ hr hg e0 (.of_eq (fa.bind _ rfl)) (.cons rfl (.cons rfl .nil)) S2.gr (.cons R1 (.cons R2 .nil)) rfl (cx.clo pins s2 σ H2 ρ2 loc1 g2 I2 S2) key
    rw [← cx.gx.prog, ← cx.gx.w] at r
    refine wpAny_call (codeAny_mono r fun r s' hq' => ?_)
    cases r with
    | error e => exact passAt tk σ pins H2 s2 e s' I2 hq'
    | ok fl =>
      cases fl with
      | ret u =>
        obtain ⟨v, H', I', rv, t, ev, qq⟩ := I2.after hq'
        subst ev
        exact ⟨t, H', rv, I', qq⟩
      | next => exact False.elim hq'
      | brk => exact False.elim hq'
      | cont => exact False.elim hq'
  have room := cx.room.mono hk
  cases neg with
  | false =>
    subst hop
    obtain ⟨m, hFr⟩ := I2.fr
    show wpAny _ _ (richCompare .Eq (.ref a) (.ref b)) _ _ _
    refine PySem.W.cmp_K (op := .Eq) (tb := .ref C) room.units0 hFr I2.ok.mod.kin J1 J2.type (by simp [PySem.W.notFirst]) (by rw [cx.gx.K]; exact hfi) (by rw [cx.gx.K]; exact hfn) (wpAny_mono (own_call X.A (room.mono (Nat.le_succ k)) cx.gx.ga rfl) (fun v s' hv => ?_) fun _ _ z => z)
    obtain ⟨t, H', rfl, I', qq⟩ := hv
    exact ⟨.bl t, H', I', rfl, qq⟩
  | true =>
    subst hop
    have OE : s2.heap.OwnEqNoNe a C f "object" [.type "object"] := by
      refine ⟨ox1, of, nm, qn, N, bs, hdct, sn, sub, ab, col, dd, k0, k1, k2, k3, k5, newId, s2.heap.nsMap N, some (.builtin "object.__eq__"), J1.at_, J1.cls, KX _ _ hC, .of_isNs (PySem.W.isNs_of_in KX hok), ?_, KX _ _ hof, hofc, PySem.F.mro_object, by rw [typeLookup_type, builtinLookup_eq_fast]; kernel_rfl, PySem.W.nsMap_none_of_in KX hok hNe⟩
      exact ns_get KX (.of_isNs (PySem.W.isNs_of_in KX hok)) hEq
    have units : X.A.units + 1 < cLine := by have := room.un; omega
    have oc := own_call X.A.in1 room.in1 (in1_guards cx.gx.ga) rfl
    obtain ⟨hh, gg, dr, tt, os⟩ := s2
    refine compareOp_ne_ownEq PySem.F.cmp_object OE J2.at_ J2.cls units (wpAny_mono oc (fun v s' hv => ?_) fun _ _ z => z)
    obtain ⟨t, H', rfl, I', qq⟩ := hv
    exact ⟨t, rfl, .bl (!t), H', I', rfl, qq⟩
end
end PyD
end
section
set_option Elab.async false
set_option linter.all false
set_option maxRecDepth 100000
set_option maxHeartbeats 4000000
namespace PyD
open PySem PySem.Spec PyProof.Rows L2
section
variable {R : RC} {T : Tab}
theorem TabS.up {H H' : Hp} {P : Addr} {q : Str} (t : TabS H P q) (h1 : ∀ ps, H P = some (.tbl ps) → H' P = some (.tbl ps)) (h2 : ∀ b o u, H b = some (.frz o u) → H' b = some (.frz o u)) : TabS H' P q := by
  obtain ⟨ps, e1, e2, e3⟩ := t
  refine ⟨ps, h1 _ e1, e2, fun pos cv hc => ?_⟩
  obtain ⟨c, oc, z1, z2⟩ := e3 pos cv hc
  exact ⟨c, oc, z1, h2 _ _ _ z2⟩
/-- a lambda is made -/
theorem lam_new {X : Cx} {pins : List (Addr × Obj)} {σ : L2.St} {H : Hp} {s : Shared} {ρ : List (List Addr)} {g : G} {c P : Addr} {q : Str} {params : Arguments} {body : Expr} {scope : Scope} {pos : Pos} {E : Value → Shared → Prop} {Q : Value → Shared → Prop}
    (I : L2.Inv X pins σ H s) (gr : GR R T ρ H g) (TB : LamX.TabB X.base X.mg c P) (hcode : X.env.code = .ref c) (hq : X.env.qual ++ "<lambda>" = q) (hm : (P, q) ∈ T) (hu : ∀ p ∈ T, p.1 = P → p.2 = q) (hdef : defaultsOf params X.env = ([], []))
    (hfree : ∀ y ∈ scope.names, y.2 = .free → ∃ c, X.env.cells.lookup y.1 = some c)
    (h : ∀ (f c' : Addr) (pm ctv : Value) (oc : Obj) (u : HO) (H1 : Hp) (s' : Shared), L2.Inv X pins σ H1 s' → Stp R T ρ ρ H H1 g →
      H1 f = some (.frz (PySem.W.kla_obj "<lambda>" q params body scope (cloFrom X.env.cells scope.names []) pm c' ctv) u) → H1 c' = some (.frz oc (LamX.CodeO c' q)) → Q (.ref f) s') :
    wpAny (model X.prog X.w) X.A (eval (.Lambda params body scope pos) X.env) Q E s := by
  subst hq
  have tS := gr.tab _ hm
  obtain ⟨ps, hP, ht, ha⟩ := id tS
  refine PySem.W.kla_eval hdef ?_
  have bP : s.heap.BuiltinsAt X.mg P := TB.bm.keeps I.bk
  have hP' : s.heap.get? P = some { cls := .none, data := .fields ps } := I.hok P _ hP
  cases hc : codeAmong pos ps.toList with
  | none =>
    refine PySem.W.kla_makeFunction (mg := X.mg) (c := c) (P := P) (ps := ps) (closure_ok hfree) I.ok.glob (I.mod.glob.keeps I.bk) hcode (TB.code.keeps I.bk) hP' ht hc TB.gP bP fun c' ctv h' tk hx hge hlt hrec htb => ?_
    obtain ⟨c2, oc, vs, t, e2, hoc, hd, hv⟩ := hrec
    cases e2
    have nC : H c' = none := I.hok.fresh hge
    have I1 := LamX.inv_table (t' := tk) (more := #[rawInt pos.line, rawInt pos.col, .ref c']) (h' := h') I hP hx htb hge ⟨oc, vs, t, hoc, hd, hv⟩
    obtain ⟨oc2, I2⟩ := Inv.frz I1 upd_same trivial
    have eH : upd (upd (upd H P (.tbl (ps ++ #[rawInt pos.line, rawInt pos.col, .ref c']))) c' (LamX.CodeO c' (X.env.qual ++ "<lambda>"))) c' (.frz oc2 (LamX.CodeO c' (X.env.qual ++ "<lambda>"))) = upd (upd H P (.tbl (ps ++ #[rawInt pos.line, rawInt pos.col, .ref c']))) c' (.frz oc2 (LamX.CodeO c' (X.env.qual ++ "<lambda>"))) := by
      funext b
      by_cases hb : b = c'
      · rw [hb, upd_same, upd_same]
      · rw [upd_ne hb, upd_ne hb, upd_ne hb]
    rw [eH] at I2
    have nPc : P ≠ c' := ne_of_none hP nC
    have sz : s.heap.objs.size ≤ h'.objs.size := Nat.le_trans hge (Nat.le_of_lt hlt)
    have hob : (h'.push (PySem.W.kla_obj "<lambda>" (X.env.qual ++ "<lambda>") params body scope (cloFrom X.env.cells scope.names []) ((X.mg "__name__").getD .none) c' ctv)).get? h'.objs.size = some (PySem.W.kla_obj "<lambda>" (X.env.qual ++ "<lambda>") params body scope (cloFrom X.env.cells scope.names []) ((X.mg "__name__").getD .none) c' ctv) := Heap.get?_push_size _ rfl
    have I3 := I2.laid (a := h'.objs.size) (o := .frz (PySem.W.kla_obj "<lambda>" (X.env.qual ++ "<lambda>") params body scope (cloFrom X.env.cells scope.names []) ((X.mg "__name__").getD .none) c' ctv) (.ext fun _ => True))
      (h' := h'.push (PySem.W.kla_obj "<lambda>" (X.env.qual ++ "<lambda>") params body scope (cloFrom X.env.cells scope.names []) ((X.mg "__name__").getD .none) c' ctv)) (t' := tk) (fun b u e => Heap.get?_push_of_some _ e) (Nat.le_refl _) ⟨hob, trivial, ⟨_, hob⟩, fun _ _ _ _ => trivial⟩
    have nF : H h'.objs.size = none := I.hok.fresh sz
    have nFc : h'.objs.size ≠ c' := Nat.ne_of_gt hlt
    have at_ : ∀ b o, H b = some o → (∀ ps, o ≠ .tbl ps) → upd (upd (upd H P (.tbl (ps ++ #[rawInt pos.line, rawInt pos.col, .ref c']))) c' (.frz oc2 (LamX.CodeO c' (X.env.qual ++ "<lambda>")))) h'.objs.size (.frz (PySem.W.kla_obj "<lambda>" (X.env.qual ++ "<lambda>") params body scope (cloFrom X.env.cells scope.names []) ((X.mg "__name__").getD .none) c' ctv) (.ext fun _ => True)) b = some o := fun b o e n => by
      rw [upd_ne (ne_of_none e nF), upd_ne (ne_of_none e nC), upd_ne (fun z => n ps (Option.some.inj (e.symm.trans (by rw [z]; exact hP))))]
      exact e
    have atc : upd (upd (upd H P (.tbl (ps ++ #[rawInt pos.line, rawInt pos.col, .ref c']))) c' (.frz oc2 (LamX.CodeO c' (X.env.qual ++ "<lambda>")))) h'.objs.size (.frz (PySem.W.kla_obj "<lambda>" (X.env.qual ++ "<lambda>") params body scope (cloFrom X.env.cells scope.names []) ((X.mg "__name__").getD .none) c' ctv) (.ext fun _ => True)) c' = some (.frz oc2 (LamX.CodeO c' (X.env.qual ++ "<lambda>"))) := by
      rw [upd_ne (Ne.symm nFc), upd_same]
    have atP : ∀ b, b ≠ P → (∃ qs, H b = some (.tbl qs)) → upd (upd (upd H P (.tbl (ps ++ #[rawInt pos.line, rawInt pos.col, .ref c']))) c' (.frz oc2 (LamX.CodeO c' (X.env.qual ++ "<lambda>")))) h'.objs.size (.frz (PySem.W.kla_obj "<lambda>" (X.env.qual ++ "<lambda>") params body scope (cloFrom X.env.cells scope.names []) ((X.mg "__name__").getD .none) c' ctv) (.ext fun _ => True)) b = H b := fun b hb ⟨qs, e⟩ => by
      rw [upd_ne (ne_of_none e nF), upd_ne (ne_of_none e nC), upd_ne hb]
    have atPP : upd (upd (upd H P (.tbl (ps ++ #[rawInt pos.line, rawInt pos.col, .ref c']))) c' (.frz oc2 (LamX.CodeO c' (X.env.qual ++ "<lambda>")))) h'.objs.size (.frz (PySem.W.kla_obj "<lambda>" (X.env.qual ++ "<lambda>") params body scope (cloFrom X.env.cells scope.names []) ((X.mg "__name__").getD .none) c' ctv) (.ext fun _ => True)) P = some (.tbl (ps ++ #[rawInt pos.line, rawInt pos.col, .ref c'])) := by
      rw [upd_ne (ne_of_none hP nF), upd_ne nPc, upd_same]
    refine h h'.objs.size c' ((X.mg "__name__").getD .none) ctv oc2 _ _ _ I3 ⟨RNew.refl ρ H, ⟨fun b o e _ n => at_ b o e n, fun b qs e => ?_⟩, ⟨fun i ob hi => ?_, gr.len, gr.nd, fun p hp => ?_⟩⟩ upd_same atc
    · by_cases hb : b = P
      · rw [hb]; exact ⟨_, atPP⟩
      · exact ⟨qs, by rw [atP b hb ⟨qs, e⟩]; exact e⟩
    · obtain ⟨l, e1, e2⟩ := gr.bx i ob hi
      have ee : Ext H _ := fun b o e st => at_ b o e fun qs z => by rw [z] at st; cases st
      refine ⟨l, e1, e2.keep (RExt.refl _) ee fun b o hb e => at_ b o e fun qs z => ?_⟩
      obtain ⟨o', e', st⟩ := e2.unst b hb
      rw [e] at e'; cases e'
      subst z
      cases ob with
      | drw large rest cells turn =>
        obtain ⟨a1, a2, a3, kvs, el, f1, f2, f3, _⟩ := e2
        subst el
        rcases List.mem_cons.mp hb with z | hb
        · rw [z, f1] at e; cases e
        · rcases List.mem_cons.mp hb with z | hb
          · rw [z, f2] at e; cases e
          · cases hb
      | ins cn fs =>
        obtain ⟨a1, a2, a3, ks, el, f1, f2, f3⟩ := e2
        subst el
        rcases List.mem_cons.mp hb with z | hb
        · rw [z, f1] at e; cases e
        · cases hb
    · by_cases hb : p.1 = P
      · rw [hu p hp hb, hb]
        refine ⟨_, atPP, by rw [show (ps ++ #[rawInt pos.line, rawInt pos.col, Value.ref c']).toList = ps.toList ++ [rawInt pos.line, rawInt pos.col, .ref c'] from by simp]; exact PySem.TriplesOk_snoc _ _ _ _ ht, fun p' cv hcv => ?_⟩
        rw [show (ps ++ #[rawInt pos.line, rawInt pos.col, Value.ref c']).toList = ps.toList ++ [rawInt pos.line, rawInt pos.col, .ref c'] from by simp] at hcv
        rcases LamX.among_app _ ht hcv with z | z
        · obtain ⟨c0, oc0, e1, e2⟩ := ha p' cv z
          exact ⟨c0, oc0, e1, at_ _ _ e2 fun qs z => by cases z⟩
        · exact ⟨c', oc2, z, atc⟩
      · exact (gr.tab p hp).up (fun qs e => by rw [atP p.1 hb ⟨qs, e⟩]; exact e) fun b o u e => at_ b _ e fun qs z => by cases z
  | some cv =>
    obtain ⟨c', oc0, e, hco⟩ := ha pos cv hc
    subst e
    refine PySem.W.kla_makeFunctionHit (mg := X.mg) (c := c) (P := P) (ps := ps) (closure_ok hfree) I.ok.glob (I.mod.glob.keeps I.bk) hcode (TB.code.keeps I.bk) hP' ht hc bP fun ctv h' tk hx hsz => ?_
    have hob : (h'.push (PySem.W.kla_obj "<lambda>" (X.env.qual ++ "<lambda>") params body scope (cloFrom X.env.cells scope.names []) ((X.mg "__name__").getD .none) c' ctv)).get? h'.objs.size = some (PySem.W.kla_obj "<lambda>" (X.env.qual ++ "<lambda>") params body scope (cloFrom X.env.cells scope.names []) ((X.mg "__name__").getD .none) c' ctv) := Heap.get?_push_size _ rfl
    have I3 := I.laid (a := h'.objs.size) (o := .frz (PySem.W.kla_obj "<lambda>" (X.env.qual ++ "<lambda>") params body scope (cloFrom X.env.cells scope.names []) ((X.mg "__name__").getD .none) c' ctv) (.ext fun _ => True))
      (h' := h'.push (PySem.W.kla_obj "<lambda>" (X.env.qual ++ "<lambda>") params body scope (cloFrom X.env.cells scope.names []) ((X.mg "__name__").getD .none) c' ctv)) (t' := tk) (fun b u e => Heap.get?_push_of_some _ (hx b u e)) hsz ⟨hob, trivial, ⟨_, hob⟩, fun _ _ _ _ => trivial⟩
    have nF : H h'.objs.size = none := I.hok.fresh hsz
    exact h h'.objs.size c' ((X.mg "__name__").getD .none) ctv oc0 _ _ _ I3 (Stp.new gr nF) upd_same (by rw [upd_ne (ne_of_none hco nF)]; exact hco)
variable {cc : CC} {Γ : Env'}
theorem SndE.lam {id : Nat} {caps : List Nat} {params : Arguments} {body : Expr} {scope : Scope} {pos : Pos} {L : LamT} (hid : Γ.mine.contains id = true) (hL : R.lam id = some L) (hL2 : L = ⟨params, body, scope, Γ.qual ++ "<lambda>"⟩) (hs : LamX.lamSB cc.sc scope = true) (hdef : ∀ env, defaultsOf params env = ([], []) := by intro _; rfl) :
    SndE R T cc Γ (.Lambda params body scope pos) (.lam id caps) := fun X W c tk => by
  refine ⟨fun pins s σ H Q I ⟨ρ, loc, g, S, q⟩ => ?_⟩
  unfold den at q
  rw [if_pos hid] at q
  obtain ⟨k1, k2, cd, P, k3, k4, k5, k6⟩ := c.lamc (fun z => by rw [z] at hid; simp at hid)
  have LS : LamX.LamS X.env.scope scope := LamX.lamS_by (by rw [c.sc]; exact hs)
  refine lam_new (R := R) (T := T) I S.gr (c := cd) (P := P) (q := Γ.qual ++ "<lambda>") (by rw [c.gx.base, c.gx.mg]; exact k4) k3 (by rw [k2]) k5 k6 (hdef X.env) (LS.has I.ok) fun f c' pm ctv oc u H1 s' I1 st h1 h2 => ?_
  refine ⟨.ref f, H1, I1, rfl, q ρ (.ref f) H1 st (.clo h1 ⟨L, X.env.cells, pm, c', ctv, oc, hL, by rw [hL2], ?_, by rw [hL2]; exact h2⟩) fun z => by cases z⟩
  rw [k1]
  unfold capsOf
  rw [hL]
section
variable {ρ ρ1 : List (List Addr)} {H H1 : Hp}
mutual
theorem Rep.later (fz : ∀ b o u, H b = some (.frz o u) → H1 b = some (.frz o u)) : ∀ {d : D} {v : V}, plainD d = true → Rep R ρ H d v → Rep R ρ1 H1 d v
  | _, _, _, .non => .non
  | _, _, _, .bl b => .bl b
  | _, _, _, .int i => .int i
  | _, _, _, .str s => .str s
  | _, _, _, .ty n => .ty n
  | _, _, h, .tup h1 r => .tup (by
      rcases h1 with ⟨o, h1, h2⟩ | h1
      · exact .inl ⟨o, fz _ _ _ h1, h2⟩
      · exact .inr h1) (Reps.later fz (by simpa [plainD] using h) r)
  | _, _, h, .lst h1 r => .lst (by obtain ⟨o, h1⟩ := h1; exact ⟨o, fz _ _ _ h1⟩) (Reps.later fz (by simpa [plainD] using h) r)
  | _, _, h, .ins h1 m r => .ins (fz _ _ _ h1) m (RepF.later fz (by simpa [plainD] using h) r)
  | _, _, h, .exc _ _ _ _ _ _ _ => by simp [plainD] at h
  | _, _, h, .excN _ _ _ _ _ => by simp [plainD] at h
  | _, _, _, .fn h => .fn h
  | _, _, _, .clo h c => .clo (fz _ _ _ h) (by
      obtain ⟨L, cells, pm, c', ctv, oc, h1, h2, h3, h4⟩ := c
      exact ⟨L, cells, pm, c', ctv, oc, h1, h2, h3, fz _ _ _ h4⟩)
  | _, _, h, .box _ => by simp [plainD] at h
  | _, _, h, .dic h1 r => .dic (fz _ _ _ h1) (RepK.later fz (by simpa [plainD] using h) r)
  | _, _, _, .scr h => .scr (by
      rcases h with ⟨o, h⟩ | h
      · exact .inl ⟨o, fz _ _ _ h⟩
      · exact .inr h)
theorem Reps.later (fz : ∀ b o u, H b = some (.frz o u) → H1 b = some (.frz o u)) : ∀ {ds : List D} {vs : List V}, plainDs ds = true → Reps R ρ H ds vs → Reps R ρ1 H1 ds vs
  | _, _, _, .nil => .nil
  | _, _, h, .cons r t => by
    simp only [plainDs, Bool.and_eq_true] at h
    exact .cons (Rep.later fz h.1 r) (Reps.later fz h.2 t)
theorem RepK.later (fz : ∀ b o u, H b = some (.frz o u) → H1 b = some (.frz o u)) : ∀ {ds : List (D × D)} {vs : List (Key × V)}, plainDK ds = true → RepK R ρ H ds vs → RepK R ρ1 H1 ds vs
  | _, _, _, .nil => .nil
  | _, _, h, .cons r t => by
    simp only [plainDK, Bool.and_eq_true] at h
    exact .cons (Rep.later fz h.1 r) (RepK.later fz h.2 t)
theorem RepF.later (fz : ∀ b o u, H b = some (.frz o u) → H1 b = some (.frz o u)) : ∀ {ds : List (Str × D)} {vs : List (Str × V)}, plainDF ds = true → RepF R ρ H ds vs → RepF R ρ1 H1 ds vs
  | _, _, _, .nil => .nil
  | _, _, h, .cons r t => by
    simp only [plainDF, Bool.and_eq_true] at h
    exact .cons (Rep.later fz h.1 r) (RepF.later fz h.2 t)
end
end
theorem pickL_at {is : List Nat} {loc : Loc} {i : Nat} {own : Bool} {d : D} (h : (pickL is loc)[i]? = some (some (own, d))) : own = false ∧ loc[i]? = some (some (false, d)) ∧ plainD d = true := by
  unfold pickL at h
  rw [List.getElem?_map] at h
  by_cases hi : i < loc.length
  · rw [List.getElem?_range hi] at h
    simp only [Option.map_some, Option.some.injEq] at h
    split at h
    · split at h
      · rename_i d' e
        split at h
        · rename_i hp
          cases h
          exact ⟨rfl, e, hp⟩
        · cases h
      · cases h
    · cases h
  · rw [List.getElem?_eq_none (by simpa using hi)] at h
    cases h
theorem pick_sr {ρ ρ1 : List (List Addr)} {H H1 : Hp} {loc : Loc} {g g1 : G} {σ : L2.St} {is : List Nat} (S : SR R T ρ H loc g σ) (fz : ∀ b o u, H b = some (.frz o u) → H1 b = some (.frz o u)) (gr : GR R T ρ1 H1 g1) : SR R T ρ1 H1 (pickL is loc) g1 σ := by
  refine ⟨gr, fun i own d h => ?_, fun i j d e a h1 => ?_, fun i d a h1 => ?_, ?_⟩
  · obtain ⟨rfl, h2, h3⟩ := pickL_at h
    obtain ⟨v, e1, e2⟩ := S.sl i false d h2
    exact ⟨v, e1, Rep.later fz h3 e2⟩
  · cases (pickL_at h1).1
  · cases (pickL_at h1).1
  · have : (pickL is loc).length = loc.length := by unfold pickL; simp
    rw [this]; exact S.len
theorem cloFrom_fst (cells cells' : List (Str × Addr)) : ∀ (names : List (Str × NameKind)) (acc acc' : List (Str × Addr)), acc.map (·.1) = acc'.map (·.1) → (cloFrom cells names acc).map (·.1) = (cloFrom cells' names acc').map (·.1)
  | [], _, _, h => h
  | (n, k) :: r, acc, acc', h => by
    unfold cloFrom
    split
    · exact cloFrom_fst cells cells' r _ _ (by simp [h])
    · exact cloFrom_fst cells cells' r _ _ h
theorem pairs_eq {α β : Type} : ∀ {l m : List (α × β)}, l.map (·.1) = m.map (·.1) → l.map (·.2) = m.map (·.2) → l = m
  | [], [], _, _ => rfl
  | [], _ :: _, h, _ => by simp at h
  | _ :: _, [], h, _ => by simp at h
  | (a, b) :: l, (c, d) :: m, h1, h2 => by
    simp only [List.map_cons, List.cons.injEq] at h1 h2
    obtain ⟨rfl, h1⟩ := h1
    obtain ⟨rfl, h2⟩ := h2
    rw [pairs_eq h1 h2]
/-- what must be known of a def's lambdas -/
structure LamOk (R : RC) (T : Tab) (N : List Str) (sc : Scope) (kb : Nat) (Γ : Env') (id : Nat) : Prop where
  ex : ∃ (L : LamT) (t : E), R.lam id = some L ∧ L.qual = Γ.qual ++ "<lambda>" ∧ LamX.lamSB sc L.scope = true ∧ (∀ (q : Str) (cl : List (Str × Addr)) (pm cv ctv : Value), bindArgs (PySem.W.kla_fn "<lambda>" q L.params L.body L.scope cl pm cv ctv) ⟨[], []⟩ = pure []) ∧
    SndE R T ⟨N, L.scope, kb, false⟩ Γ.nc L.body t ∧ ∀ loc args g, Γ.lamD id loc args g = if args.isEmpty then den Γ.nc t loc g else .bad
/-- the closures of a def: its own, and its callers' -/
theorem CloOk.own {X : Cx} {pins : List (Addr × Obj)} {s : Shared} {σ : L2.St} {H : Hp} {ρ : List (List Addr)} {loc : Loc} {g : G} {N : List Str} {sc : Scope} {kb : Nat} (gx : GX R X) (hN : X.N = N) (hsc : X.env.scope = sc) (hq : X.env.qual = Γ.qual) (hcap : Γ.caps = capsOf R X.env.cells) (co : CloOk R T Γ.clo X.stack s H)
    (hl : ∀ id, Γ.mine.contains id = true → LamOk R T N sc kb Γ id) (hk : kb + 1 ≤ R.kc) (I : L2.Inv X pins σ H s) (S : SR R T ρ H loc g σ) : CloOk R T (Γ.sub loc) X.stack s H := by
  intro id cs ds g1 ρ1 H1 s1 A1 outer1 a us vs Q E un e0 room gd gr rc rr rv ans
  unfold Env'.sub at ans
  by_cases hc : (Γ.mine.contains id && (cs == Γ.caps id)) = true
  case neg =>
    rw [if_neg hc] at ans
    exact co id cs ds g1 ρ1 H1 s1 A1 outer1 a us vs Q E un e0 room gd gr rc rr rv ans
  rw [if_pos hc] at ans
  simp only [Bool.and_eq_true, beq_iff_eq] at hc
  obtain ⟨hid, hcs⟩ := hc
  obtain ⟨L, t, hL, hLq, hLs, hbind, hbody, hden⟩ := (hl id hid).ex
  rw [hden] at ans
  by_cases he : ds.isEmpty = true
  case neg => rw [if_neg he] at ans; exact ans.elim
  rw [if_pos he] at ans
  have hds : ds = [] := by simpa using he
  subst hds
  cases rr
  cases rv
  have LS : LamX.LamS X.env.scope L.scope := LamX.lamS_by (by rw [hsc]; exact hLs)
  cases rc with
  | @clo a o u id cs hH hob =>
  obtain ⟨L', cells, pm, c', ctv, oc, q1, q2, q3, q4⟩ := hob
  rw [hL] at q1; cases q1
  have ecl : cloFrom cells L.scope.names [] = cloFrom X.env.cells L.scope.names [] := by
    refine pairs_eq (cloFrom_fst _ _ _ _ _ rfl) ?_
    rw [← q3, hcs, hcap]
    unfold capsOf
    rw [hL]
  rw [ecl] at q2
  obtain ⟨ho, _⟩ := (show ObjOk R.P R.w H1 s1.heap a (.frz o u) from e0.hok a _ hH)
  obtain ⟨_, ⟨oc2, vs2, t2, hoc, hdc, hvc⟩, _⟩ := (show ObjOk R.P R.w H1 s1.heap c' (.frz oc (LamX.CodeO c' L.qual)) from e0.hok c' _ q4)
  have hLq2 : L.qual = X.env.qual ++ "<lambda>" := by rw [hLq, hq]
  rw [hLq2] at q2 hvc
  subst q2
  have room' : Room (kb + 1) A1 := room.mono hk
  have e1 : Env0 X.prog X.w X.K X.mg X.base A1 outer1 s1 H1 := by rw [gx.prog, gx.w, gx.K, gx.mg, gx.base]; exact e0
  refine PySem.W.kla_callFunE room'.depth ho rfl LS.co LS.gen rfl ⟨c', oc2, vs2, t2, rfl, hoc, hdc, hvc⟩ ?_
  rw [hbind]
  have lim : s1.heap.NoLimit := e0.mod.nolimit.keeps fun b o e => (e0.bs b o e).1
  refine wpAny_pure (wpAny_newFunctionEnv (fun y hy => (LS.own y hy).2) (fun y hy => absurd hy (by simp)) (fun h₁ hns hsb => ⟨lim.fresh _ hsb, ?_⟩) LS.kind)
  show codeAny _ _ (.expr L.body (LamX.lamEnv X L.scope s1.heap.objs.size a c')) _ _
  have kp : ∀ b o, s1.heap.get? b = some o → h₁.get? b = some o := fun b o e => hsb.extBut b o (Nat.ne_of_lt (Heap.lt_size e)) (Heap.get?_push_of_some _ e)
  have J : L2.Inv (LamX.lamCx X A1 outer1 s1 H1 E L.scope a c') [] σ H1 { s1 with heap := h₁, toks := s1.toks + ([] : List (Str × Value)).length } :=
    LamX.lam_start2 I LS e1 room'.hd un hns kp
  have gx2 : GX R (LamX.lamCx X A1 outer1 s1 H1 E L.scope a c') := ⟨gx.prog, gx.w, gx.K, gx.mg, gx.base, gx.nd, rfl, deeper_guards gd⟩
  have cx2 : CtxOk R T (LamX.lamCx X A1 outer1 s1 H1 E L.scope a c') ⟨N, L.scope, kb, false⟩ Γ.nc :=
    ⟨gx2, hN, rfl, room'.deeper _, (fun z => by cases z), (fun z => by cases z), (fun z => by cases z), (fun z => absurd rfl z), fun _ _ _ _ _ _ _ _ _ _ _ => CloOk.no fun _ _ _ _ => rfl⟩
  have tk2 : Takes (LamX.lamCx X A1 outer1 s1 H1 E L.scope a c') (fun cls d _ H => E cls d H) := takes_of rfl rfl rfl rfl
  have S2 : SR R T ρ1 H1 (pickL (Γ.capS id) loc) g1 σ := pick_sr S un.frzs gr
  have r := (hbody _ _ cx2 tk2).run [] _ σ H1 Q J ⟨ρ1, pickL (Γ.capS id) loc, g1, S2, ans⟩
  rw [← gx.prog, ← gx.w]
  refine PySem.W.kla_codeExpr (wpAny_mono r (fun v s' hq => ?_) fun e s' hq => hq)
  obtain ⟨w', H', J', rv', qq⟩ := hq
  exact ⟨w', H', J'.os, J'.bare, J'.base, J'.hok, rv', qq⟩
end
end PyD
end
section
set_option Elab.async false
set_option linter.all false
set_option maxRecDepth 100000
set_option maxHeartbeats 4000000
namespace PyD
open PySem PySem.Spec PyProof.Rows L2
section
variable {R : RC} {T : Tab} {cc : CC} {Γ : Env'} {ρ : List (List Addr)} {H : Hp} {g : G} {loc : Loc} {σ : L2.St}
/-- an object of box n is written -/
theorem Stp.boxw {n : Nat} {l : List Addr} {b : Addr} {u o : HO} {ob' : Ob} (G0 : GR R T ρ H g) (hn : n < g.bx.length) (hl : ρ[n]? = some l) (hb : b ∈ l) (hH : H b = some u) (hu : stab u = false) (nt : ∀ ps, u ≠ .tbl ps) (hnew : BoxAt R ρ (upd H b o) l ob') :
    Stp R T ρ ρ H (upd H b o) ⟨g.bx.set n ob'⟩ := by
  have ee : Ext H (upd H b o) := Ext.mut hH hu
  have af : b ∈ ρ.flatten := mem_flat hl hb
  refine ⟨RNew.refl ρ H, ⟨fun c v hc h2 h3 => by rw [upd_ne (fun z => h2 (by rw [z]; exact af))]; exact hc, fun c ps hc => ⟨ps, by rw [upd_ne (fun z => by rw [z, hH] at hc; cases hc; exact nt ps rfl)]; exact hc⟩⟩, ⟨fun i ob h => ?_, by rw [G0.len]; simp, G0.nd, fun p hp => (G0.tab p hp).ext ee fun ps h => by rw [upd_ne (fun z => by rw [z, hH] at h; cases h; exact nt ps rfl)]; exact h⟩⟩
  by_cases hi : i = n
  · subst hi
    rw [List.getElem?_set_self hn] at h; cases h
    exact ⟨l, hl, hnew⟩
  · have h' : g.bx[i]? = some ob := by
      have z : (g.bx.set n ob')[i]? = some ob := h
      rw [List.getElem?_set_ne (Ne.symm hi)] at z; exact z
    obtain ⟨l2, e1, e2⟩ := G0.bx i ob h'
    exact ⟨l2, e1, e2.keep (RExt.refl _) ee fun c v hc hh => by rw [upd_ne (fun z => hi (nd_at (a := b) G0.nd e1 hl (by rw [← z]; exact hc) hb))]; exact hh⟩
theorem drwAt_of {i n : Nat} {large cells : List Int} {rest turn : Int} (S : SR R T ρ H loc g σ) (h : drwAt loc g i = some (n, large, rest, cells, turn)) :
    ∃ a b c kvs, σ[i]? = some (some (V.ref a)) ∧ ρ[n]? = some [a, b] ∧ n < g.bx.length ∧ H a = some (.dK kvs) ∧ H b = some (.lst (large.map V.int)) ∧ FrL H c (cells.map V.int) ∧
      valV kvs kLarge = some (.ref b) ∧ valV kvs kRest = some (.int rest) ∧ valV kvs kCells = some (.ref c) ∧ valV kvs kTurn = some (.int turn) ∧ kvs.length < 1000 ∧ loc[i]? = some (some (false, .box n)) ∧ g.bx[n]? = some (.drw large rest cells turn) := by
  unfold drwAt at h
  split at h
  · rename_i m e
    split at h
    · rename_i l2 r2 c2 t2 e2
      cases h
      obtain ⟨l, h1, a, b, c, kvs, rfl, h2, h3, h4, h5, h6, h7, h8, h9⟩ := S.gr.bx _ _ e2
      obtain ⟨v, s1, s2⟩ := S.sl i false _ e
      have s2' : Rep R ρ H (.box n) v := s2
      cases s2' with
      | box hb =>
        rw [h1] at hb; cases hb
        exact ⟨a, b, c, kvs, s1, h1, (List.getElem?_eq_some_iff.mp e2).1, h2, h3, h4, h5, h6, h7, h8, h9, e, e2⟩
    · cases h
  · cases h
theorem DGet.kk {a : Addr} {kvs : List (Key × V)} {k : Str} {v : V} (e : H a = some (.dK kvs)) (h : valV kvs (.inr k) = some v) : DGet H a (.str k) (some v) := by
  rw [← h]; exact DGet.k (k := .inr k) e
theorem SndE.dg {x k : Str} {i j : Nat} {ks : String} {p p2 pos : Pos} (hx : slotB cc i x = true) (hk : k = Str.ofString ks) : SndE R T cc Γ (.Subscript (.Name x p) (.Constant (.str k) j p2) pos) (.dg i ks) := fun X W c tk => by
  obtain ⟨n1, n2, n3, n4⟩ := slotB_ok c hx
  have hu := c.units
  refine PE.imp (pe_dget (by omega) (pe_var n1 n2 n3 n4) pe_str (fun _ _ => rfl)) fun σ H Q ⟨ρ, loc, g, S, q⟩ => ?_
  unfold den at q
  cases e : drwAt loc g i with
  | none => rw [e] at q; exact q.elim
  | some y =>
    obtain ⟨n, large, rest, cells, turn⟩ := y
    rw [e] at q
    dsimp only at q
    obtain ⟨a, b, cl, kvs, h1, h2, _, h3, h4, h5, h6, h7, h8, h9, _⟩ := drwAt_of S e
    refine ⟨.ref a, h1, ?_⟩
    have fin : ∀ v d, valV kvs (.inr k) = some v → Rep R ρ H d v → Ans R T ρ H (.ok false d g) Q (fun c dx H' => W c dx σ H') → ∃ a' v', V.ref a = .ref a' ∧ DGet H a' (.str k) (some v') ∧ Q v' H := fun v d hv rv an =>
      ⟨a, v, rfl, DGet.kk h3 hv, ans_ok S.gr rv an⟩
    split at q
    · rename_i hz; subst hz; exact fin _ _ (by rw [hk]; exact h7) (.int _) q
    · split at q
      · rename_i hz; subst hz; exact fin _ _ (by rw [hk]; exact h9) (.int _) q
      · split at q
        · rename_i hz; subst hz; exact fin _ _ (by rw [hk]; exact h8) (.lst h5 (Reps.ints _)) q
        · exact q.elim
theorem SndE.dne {x : Str} {i j : Nat} {p p2 p3 p4 pos : Pos} (hx : slotB cc i x = true) : SndE R T cc Γ (.Compare (.Subscript (.Name x p) (.Constant (.str "large") j p2) p3) [.NotEq] [.List [] p4] pos) (.dne i) := fun X W c tk => by
  obtain ⟨n1, n2, n3, n4⟩ := slotB_ok c hx
  have hu := c.units
  have h0 : SndE R T cc Γ (.List [] p4) (.lst []) := SndE.lst SndD.nil
  refine PE.imp (pe_cmpR (op_cmp c .NotEq) (pe_dget (by omega) (pe_var n1 n2 n3 n4) pe_str (fun _ _ => rfl)) (pe_frz (h0 X W c tk)) rfl) fun σ H Q ⟨ρ, loc, g, S, q⟩ => ?_
  unfold den at q
  cases e : drwAt loc g i with
  | none => rw [e] at q; exact q.elim
  | some y =>
    obtain ⟨n, large, rest, cells, turn⟩ := y
    rw [e] at q
    dsimp only at q
    obtain ⟨a, b, cl, kvs, h1, h2, _, h3, h4, h5, h6, h7, h8, h9, _, hl, hg⟩ := drwAt_of S e
    refine ⟨.ref a, h1, a, .ref b, rfl, DGet.kk h3 h6, ρ, loc, g, S, ?_⟩
    unfold den denD
    dsimp only [ResA.call, plainArgs]
    rw [if_pos (by simp)]
    intro ρ' v H' st rv _
    have S1 := st.sr S
    obtain ⟨a', b', cl', kvs', k1, k2, _, k3, k4, _⟩ := drwAt_of S1 e
    rw [h1] at k1; cases k1
    have eρ : b' = b := by
      have := st.n.1 n _ h2
      rw [k2] at this; cases this; rfl
    subst eρ
    cases eb : cmpD .NotEq (.lst (large.map D.int)) (.lst []) with
    | none => rw [eb] at q; exact q.elim
    | some bb =>
      rw [eb] at q
      refine ⟨ρ', g, [.lst (large.map D.int), .lst []], false, .bl bb, S1.gr, .cons (.inr (.lst k4 (Reps.ints _))) (.cons (.inl rv) .nil), by simp only [semB, eb], fun z H2 k z2 _ => ?_⟩
      have z2' : Rep R ρ' H2 (.bl bb) z := z2
      cases z2'
      exact q ρ' (.bl bb) H2 (st.trans (Stp.all S1.gr k)) (.bl _) fun z => by cases z
theorem SndE.dpop {x : Str} {i j j2 : Nat} {p p2 p3 p4 ap cp : Pos} (hx : slotB cc i x = true) (hbase : ∀ env, attributeBase (.Subscript (.Name x p) (.Constant (.str "large") j p2) p3) "pop" env (eval (.Subscript (.Name x p) (.Constant (.str "large") j p2) p3) env) = eval (.Subscript (.Name x p) (.Constant (.str "large") j p2) p3) env := by intro _; rfl)
    (hline : (ap.endLine == cp.line) = true := by rfl) : SndE R T cc Γ (.Call (.Attribute (.Subscript (.Name x p) (.Constant (.str "large") j p2) p3) "pop" ap) [.Constant (.int 0) j2 p4] [] cp) (.dpop i) := fun X W c tk => by
  obtain ⟨n1, n2, n3, n4⟩ := slotB_ok c hx
  have hu := c.units
  refine PE.imp (pe_bm F.plainAttrs_list F.slot_list_pop F.type_list_pop mt_popI (pe_dget (by omega) (pe_var n1 n2 n3 n4) pe_str (fun _ _ => rfl)) (pa_cons pe_int pa_nil) (hbase X.env) (by rfl) hline rfl rfl) fun σ H Q ⟨ρ, loc, g, S, q⟩ => ?_
  unfold den at q
  cases e : drwAt loc g i with
  | none => rw [e] at q; exact q.elim
  | some y =>
    obtain ⟨n, large, rest, cells, turn⟩ := y
    rw [e] at q
    cases large with
    | nil => exact q.elim
    | cons z large =>
      dsimp only at q
      obtain ⟨a, b, cl, kvs, h1, h2, hn, h3, h4, h5, h6, h7, h8, h9, h10, hl, hg⟩ := drwAt_of S e
      refine ⟨.ref a, h1, a, .ref b, rfl, DGet.kk h3 h6, .inl ⟨rfl, _, .inl (.inl h4)⟩, b, _, 0, 0, .int z, rfl, rfl, h4, by simp [ixN], by simp, ?_⟩
      have st : Stp R T ρ ρ H (upd H b (.lst ((large).map V.int))) ⟨g.bx.set n (.drw large rest cells turn)⟩ := by
        refine Stp.boxw S.gr hn h2 (by simp) h4 rfl (fun ps z => by cases z) ?_
        have ab : a ≠ b := fun z => by rw [z, h4] at h3; cases h3
        exact ⟨a, b, cl, kvs, rfl, by rw [upd_ne ab]; exact h3, upd_same, h5.ext (Ext.mut h4 rfl), h6, h7, h8, h9, h10⟩
      have hz : (List.map V.int (z :: large)).eraseIdx 0 = large.map V.int := by simp
      rw [hz]
      exact q ρ (.int z) _ st (.int z) fun z => by cases z
theorem len_put {kvs : List (Key × V)} {k : Key} {v w : V} (h : valV kvs k = some w) : (putK kvs k v).length = kvs.length := by
  unfold putK
  rw [if_pos (by rw [valV_any, h]; rfl)]
  simp
theorem SndS.dput {x k : Str} {i j : Nat} {ks : String} {e : Expr} {te : E} {p p2 p3 pos : Pos} (hx : slotB cc i x = true) (hk : k = Str.ofString ks) (he : SndE R T cc Γ e te)
    (hs : ∀ env, swapsWith e (some (.Subscript (.Name x p) (.Constant (.str k) j p2) p3)) pos.line env = pure false := by intro _; rfl) :
    SndS R T cc Γ (.Assign [.Subscript (.Name x p) (.Constant (.str k) j p2) p3] e pos) (.dput i ks te) := fun X W ρ0 H0 c tp ns tk hp => by
  obtain ⟨n1, n2, n3, n4⟩ := slotB_ok c hx
  have hu := c.units
  refine PS.imp (ps_dput (by omega) (pe_var n1 n2 n3 n4) pe_str (pe_frz (he X W c tk)) (hs X.env)) fun D σ H h => ?_
  have h' := st_bindF (f := den Γ te) (k := fun loc d g1 => match d, drwAt loc g1 i with
    | .int z, some (n, large, rest, cells, turn) => if ks = "rest" then .nx loc ⟨g1.bx.set n (.drw large z cells turn)⟩ else if ks = "turn" then .nx loc ⟨g1.bx.set n (.drw large rest cells z)⟩ else .bad
    | _, _ => .bad) (by obtain ⟨ρ, loc, g, S, st, fr, q⟩ := h; simp only [exe] at q; exact ⟨ρ, loc, g, S, st, fr, q⟩) ns
  refine rd_mono h' fun v H1 ⟨ρ1, loc1, d, g1, S1, st1, fr1, r1, a1⟩ => ?_
  cases d <;> first | (exact a1.elim; done) | skip
  rename_i z
  cases ed : drwAt loc1 g1 i with
  | none => rw [ed] at a1; exact a1.elim
  | some y =>
    obtain ⟨n, large, rest, cells, turn⟩ := y
    rw [ed] at a1
    dsimp only at a1
    obtain ⟨a, b, cl, kvs, h1, h2, hn, h3, h4, h5, h6, h7, h8, h9, h10, hl, hg⟩ := drwAt_of S1 ed
    have ez : v = .int z := by have z1 : Rep R ρ1 H1 (.int z) v := r1; cases z1; rfl
    subst ez
    have ab : a ≠ b := fun z => by rw [z, h4] at h3; cases h3
    have key : ∀ (kk : Key) (w : V) (ob' : Ob), valV kvs kk = some w → DPut H1 a (kV kk) (.int z) (upd H1 a (.dK (putK kvs kk (.int z)))) ∧ (BoxAt R ρ1 (upd H1 a (.dK (putK kvs kk (.int z)))) [a, b] ob' → Stp R T ρ1 ρ1 H1 (upd H1 a (.dK (putK kvs kk (.int z)))) ⟨g1.bx.set n ob'⟩) := fun kk w ob' hw =>
      ⟨DPut.k h3 (by have : sizeLine = 16777216 := sizeLine_eq; omega), fun hb => Stp.boxw S1.gr hn h2 (by simp) h3 rfl (fun ps z => by cases z) hb⟩
    split at a1
    · rename_i hz; subst hz
      obtain ⟨k1, k2⟩ := key kRest (.int rest) (.drw large z cells turn) h7
      have st2 := k2 ⟨a, b, cl, _, rfl, upd_same, by rw [upd_ne (Ne.symm ab)]; exact h4, h5.ext (Ext.mut h3 rfl), by rw [valV_put, if_neg (by decide)]; exact h6, by rw [valV_put, if_pos rfl], by rw [valV_put, if_neg (by decide)]; exact h8, by rw [valV_put, if_neg (by decide)]; exact h9, by rw [len_put h7]; exact h10⟩
      exact ⟨.ref a, h1, a, _, rfl, by rw [hk]; exact k1, AnsS.nx_ok (AnsS.step (st2.ext S1.gr) (RExt.refl _) a1) (st2.sr S1) (st1.trans st2) fr1⟩
    · split at a1
      · rename_i hz; subst hz
        obtain ⟨k1, k2⟩ := key kTurn (.int turn) (.drw large rest cells z) h9
        have st2 := k2 ⟨a, b, cl, _, rfl, upd_same, by rw [upd_ne (Ne.symm ab)]; exact h4, h5.ext (Ext.mut h3 rfl), by rw [valV_put, if_neg (by decide)]; exact h6, by rw [valV_put, if_neg (by decide)]; exact h7, by rw [valV_put, if_neg (by decide)]; exact h8, by rw [valV_put, if_pos rfl], by rw [len_put h9]; exact h10⟩
        exact ⟨.ref a, h1, a, _, rfl, by rw [hk]; exact k1, AnsS.nx_ok (AnsS.step (st2.ext S1.gr) (RExt.refl _) a1) (st2.sr S1) (st1.trans st2) fr1⟩
      · exact a1.elim
theorem ints_of : ∀ {ds : List D} {is : List Int} {vs : List V}, D.ints ds = some is → Reps R ρ H ds vs → vs = is.map V.int ∧ ds = is.map D.int
  | [], is, vs, h, r => by cases r; simp [D.ints] at h; subst h; exact ⟨rfl, rfl⟩
  | d :: ds, is, vs, h, r => by
    cases r with
    | cons r0 rr =>
      cases d <;> simp only [D.ints] at h <;> first | (cases h; done) | skip
      rename_i i
      cases e : D.ints ds with
      | none => rw [e] at h; cases h
      | some js =>
        rw [e] at h; cases h
        obtain ⟨h1, h2⟩ := ints_of e rr
        cases r0
        exact ⟨by rw [h1]; rfl, by rw [h2]; rfl⟩
theorem box_new {a b cl : Addr} {kvs : List (Key × V)} {large cells : List Int} (S : SR R T ρ H loc g σ) (hp : H a = some (.dK [])) (haf : a ∉ ρ.flatten) (hb : H b = some (.lst (large.map V.int))) (hbf : b ∉ ρ.flatten) (hc : FrL H cl (cells.map V.int)) (h1 : valV kvs kLarge = some (.ref b)) (h2 : valV kvs kRest = some (.int 0)) (h3 : valV kvs kCells = some (.ref cl)) (h4 : valV kvs kTurn = some (.int 0)) (hl : kvs.length < 1000) :
    GR R T (ρ ++ [[a, b]]) (upd H a (.dK kvs)) ⟨g.bx ++ [.drw large 0 cells 0]⟩ := by
  have ee : Ext H (upd H a (.dK kvs)) := Ext.mut hp rfl
  have xx : RExt ρ (ρ ++ [[a, b]]) := fun i l h => by rw [List.getElem?_append_left (List.getElem?_eq_some_iff.mp h).1]; exact h
  have ab : a ≠ b := fun z => by rw [z, hb] at hp; cases hp
  refine ⟨fun i ob h => ?_, by simp [S.gr.len], ?_, fun p hq => (S.gr.tab p hq).ext ee fun ps h => by rw [upd_ne (fun z => by rw [z, hp] at h; cases h)]; exact h⟩
  · have h' : (g.bx ++ [Ob.drw large 0 cells 0])[i]? = some ob := h
    by_cases hi : i < g.bx.length
    · rw [List.getElem?_append_left hi] at h'
      obtain ⟨l, e3, e4⟩ := S.gr.bx i ob h'
      exact ⟨l, xx i l e3, e4.keep xx ee fun b o hb hh => by rw [upd_ne (fun z => haf (by rw [← z]; exact mem_flat e3 hb))]; exact hh⟩
    · rw [List.getElem?_append_right (by omega)] at h'
      have hi0 : i - g.bx.length = 0 := by
        have := (List.getElem?_eq_some_iff.mp h').1
        simp at this
        omega
      rw [hi0] at h'
      cases h'
      have : i = ρ.length := by rw [S.gr.len]; omega
      subst this
      exact ⟨[a, b], by simp, a, b, cl, kvs, rfl, upd_same, by rw [upd_ne (Ne.symm ab)]; exact hb, hc.ext ee, h1, h2, h3, h4, hl⟩
  · rw [List.flatten_append]
    refine List.nodup_append.mpr ⟨S.gr.nd, by simpa using ab, fun y hy z hz e => ?_⟩
    have : z = a ∨ z = b := by simpa using hz
    rcases this with q | q
    · exact haf (by rw [← q, ← e]; exact hy)
    · exact hbf (by rw [← q, ← e]; exact hy)
section
variable {ρ0 : List (List Addr)} {H0 : Hp}
/-- return {'large': large, 'rest': 0, 'cells': .., 'turn': 0} -/
theorem mkd_fin {X : Cx} {W : WX} {Z : Ends} {i : Nat} {te : E} {l : List PyD.D} {b p : Addr} {vs : List V} (c : CtxOk R T X cc Γ) (S : SR R T ρ H loc g σ) (st : Stp R T ρ0 ρ H0 H g) (fr : Fresh H0 loc σ) (ho : loc[i]? = some (some (true, .lst l))) (hb : H b = some (.lst vs)) (hσ : σ[i]? = some (some (V.ref b))) (hp : H p = none)
    (mk : V → List (Key × V)) (hmk : ∀ cl : Addr, valV (mergeK [] (mk (.ref cl))) kLarge = some (.ref b) ∧ valV (mergeK [] (mk (.ref cl))) kRest = some (.int 0) ∧ valV (mergeK [] (mk (.ref cl))) kCells = some (.ref cl) ∧ valV (mergeK [] (mk (.ref cl))) kTurn = some (.int 0) ∧ (mk (.ref cl)).length ≤ 15)
    (q : AnsS R T ρ0 H0 ρ H W ((den Γ te loc g).st fun _ d g1 => match D.ints l, d with
      | some large, .lst ds => match D.ints ds with
        | some cells => .rt false (.box g1.bx.length) ⟨g1.bx ++ [.drw large 0 cells 0]⟩
        | none => .bad
      | _, _ => .bad) Z) :
    Ans R T ρ (upd H p (.dK [])) ((den Γ te loc g).frz) (fun v H2 => H2 p = some (.dK []) ∧ ∃ cl, v = .ref cl ∧ Z.rt (.ref p) (upd H2 p (.dK (mergeK [] (mk v))))) (fun c dx H' => W c dx σ H') := by
  have nw := Stp.new (o := .dK []) S.gr hp
  have pf : p ∉ ρ.flatten := fun hm => by
    obtain ⟨o, hz, _⟩ := S.gr.unst hm
    rw [hp] at hz; cases hz
  cases e1 : den Γ te loc g with
  | bad => rw [e1] at q; exact q
  | ex c' fs g' =>
    rw [e1] at q
    exact fun ρ' C dx H' st' hm hx => q ρ' C dx σ H' ((st.trans nw).trans st') hm hx
  | ok own d g1 =>
    rw [e1] at q
    dsimp only [Res.st] at q
    intro ρ2 v H2 st2 rv _
    have S2 := st2.sr (nw.sr S)
    cases el : D.ints l with
    | none => rw [el] at q; exact q.elim
    | some large =>
      rw [el] at q
      cases d <;> first | (exact q.elim; done) | skip
      rename_i ds
      dsimp only at q
      cases ec : D.ints ds with
      | none => rw [ec] at q; exact q.elim
      | some cells =>
        rw [ec] at q
        have rv' : Rep R ρ2 H2 (.lst ds) v := rv
        cases rv' with
        | @lst cl _ ws hcl rr =>
        obtain ⟨e5, _⟩ := ints_of ec rr
        subst e5
        have hp2 : H2 p = some (.dK []) := st2.k.st p _ upd_same pf (fun ps z => by cases z)
        refine ⟨hp2, cl, rfl, ?_⟩
        obtain ⟨a', vs2, p1, p2, p3, p4⟩ := S2.ownA ho
        rw [hσ] at p1; cases p1
        obtain ⟨e6, _⟩ := ints_of el p3
        subst e6
        obtain ⟨m1, m2, m3, m4, m5⟩ := hmk cl
        have pf2 : p ∉ ρ2.flatten := fun hm => by
          rcases st2.n.2 p hm with z | z
          · exact pf z
          · rw [upd_same] at z; cases z
        have tot := (st.trans nw).trans st2
        have p0 : H0 p = none := st.k.none hp fun z => pf (st.n.1.flat z)
        have b0 : H0 b = none := fr i _ b ho hσ
        have hlen : (mergeK [] (mk (.ref cl))).length < 1000 := by
          have := length_mergeK (mk (.ref cl)) []
          rw [List.length_nil] at this
          omega
        have gr := box_new S2 hp2 pf2 p2 p4 hcl m1 m2 m3 m4 hlen
        have stF : Stp R T ρ0 (ρ2 ++ [[p, b]]) H0 (upd H2 p (.dK (mergeK [] (mk (.ref cl))))) ⟨g1.bx ++ [.drw large 0 cells 0]⟩ := by
          refine ⟨⟨fun k l h => ?_, fun y hy => ?_⟩, ⟨fun y o h1 h2 h3 => ?_, fun y ps h1 => ?_⟩, gr⟩
          · have := tot.n.1 k l h
            rw [List.getElem?_append_left (List.getElem?_eq_some_iff.mp this).1]; exact this
          · rw [List.flatten_append] at hy
            rcases List.mem_append.mp hy with hy | hy
            · exact tot.n.2 y hy
            · have : y = p ∨ y = b := by simpa using hy
              rcases this with z | z
              · rw [z]; exact .inr p0
              · rw [z]; exact .inr b0
          · rw [upd_ne (ne_of_none h1 p0)]; exact tot.k.st y o h1 h2 h3
          · rw [upd_ne (ne_of_none h1 p0)]; exact tot.k.tb y ps h1
        exact q (ρ2 ++ [[p, b]]) (.ref p) _ stF (.box (t := [b]) (by rw [← S2.gr.len]; simp)) fun z => by cases z
theorem SndS.mkd1 {x : Str} {i j1 j2 j3 j4 j5 j6 : Nat} {e : Expr} {te : E} {p p1 p2 p3 p4 p5 p6 pd pos : Pos} (hx : slotB cc i x = true) (he : SndE R T cc Γ e te) :
    SndS R T cc Γ (.Return (some (.Dict [some (.Constant (.str "large") j1 p1), some (.Constant (.str "rest") j2 p2), some (.Constant (.str "cells") j3 p3), some (.Constant (.str "turn") j4 p4)] [.Name x p, .Constant (.int 0) j5 p5, e, .Constant (.int 0) j6 p6] pd)) pos) (.rmkd i te) := fun X W ρ0 H0 c tp ns tk hp => by
  obtain ⟨n1, n2, n3, n4⟩ := slotB_ok c hx
  refine PS.imp (ps_ret (pe_disp (pps_cons pe_str (pe_var n1 n2 n3 n4) (pps_cons pe_str pe_int (pps_cons pe_str (pe_frz (he X W c tk)) (pps_cons pe_str pe_int pps_nil)))) rfl rfl (fun z => by cases z) (by simp))) fun D σ H ⟨ρ, loc, g, S, st, fr, q⟩ => ?_
  simp only [exe] at q
  cases ho : ownL loc i with
  | none => rw [ho] at q; exact q.elim
  | some l =>
    rw [ho] at q
    have hl := ownL_at ho
    obtain ⟨b, vs, s1, s2, s3, s4⟩ := S.ownA hl
    intro p0 hp0
    refine ⟨.ref b, s1, ?_⟩
    have key := mkd_fin c S st fr hl s2 s1 hp0 (fun v => [(kLarge, .ref b), (kRest, .int 0), (kCells, v), (kTurn, .int 0)]) (fun cl => ⟨rfl, rfl, rfl, rfl, by simp⟩) q
    exact ⟨ρ, loc, g, (Stp.new S.gr hp0).sr S, key.mono fun v H2 ⟨k1, cl, k2, k3⟩ => ⟨k1, _, rfl, by simp, k3⟩⟩
theorem SndS.mkd2 {x : Str} {i j1 j2 j3 j4 j5 j6 : Nat} {e : Expr} {te : E} {p p1 p2 p3 p4 p5 p6 pd pos : Pos} (hx : slotB cc i x = true) (he : SndE R T cc Γ e te) :
    SndS R T cc Γ (.Return (some (.Dict [some (.Constant (.str "large") j1 p1), some (.Constant (.str "cells") j3 p3), some (.Constant (.str "rest") j2 p2), some (.Constant (.str "turn") j4 p4)] [.Name x p, e, .Constant (.int 0) j5 p5, .Constant (.int 0) j6 p6] pd)) pos) (.rmkd i te) := fun X W ρ0 H0 c tp ns tk hp => by
  obtain ⟨n1, n2, n3, n4⟩ := slotB_ok c hx
  refine PS.imp (ps_ret (pe_disp (pps_cons pe_str (pe_var n1 n2 n3 n4) (pps_cons pe_str (pe_frz (he X W c tk)) (pps_cons pe_str pe_int (pps_cons pe_str pe_int pps_nil)))) rfl rfl (fun z => by cases z) (by simp))) fun D σ H ⟨ρ, loc, g, S, st, fr, q⟩ => ?_
  simp only [exe] at q
  cases ho : ownL loc i with
  | none => rw [ho] at q; exact q.elim
  | some l =>
    rw [ho] at q
    have hl := ownL_at ho
    obtain ⟨b, vs, s1, s2, s3, s4⟩ := S.ownA hl
    intro p0 hp0
    refine ⟨.ref b, s1, ?_⟩
    have key := mkd_fin c S st fr hl s2 s1 hp0 (fun v => [(kLarge, .ref b), (kCells, v), (kRest, .int 0), (kTurn, .int 0)]) (fun cl => ⟨rfl, rfl, rfl, rfl, by simp⟩) q
    exact ⟨ρ, loc, g, (Stp.new S.gr hp0).sr S, key.mono fun v H2 ⟨k1, cl, k2, k3⟩ => ⟨k1, _, rfl, by simp, k3⟩⟩
end
end
end PyD
end
section
set_option Elab.async false
set_option linter.all false
set_option maxRecDepth 100000
set_option maxHeartbeats 4000000
namespace PyD
open PySem PySem.Spec PyProof.Rows L2 LamX
/-- what the law's def must do, called from outside with the script at a -/
def LawRun (P : Program) (w : World) (K : PySem.W.Frag) (mg : Str → Option Value) (fa : Addr) (tt : List (Addr × Addr)) (ns : List Int) : Prop :=
  ∀ base : Heap, K.In base → base.Ns mainGlobals mg → (∀ p ∈ tt, TabB base mg p.1 p.2) → ∀ (s : Shared) (H : Hp) (a : Addr), Env0 P w K mg base callerA [] s H → (∀ p ∈ tt, H p.2 = some (.tbl #[])) → ScL K H a (ns.map V.int) →
    codeAny (model P w) callerA (.call (.ref fa) ⟨[.ref a], []⟩) (CR (L2.CX P w) [] P w H s (fun v _ => v = .bl true) fun _ _ _ => False) s
theorem law_end {P : Program} {w : World} {K : PySem.W.Frag} {mg mb : Str → Option Value} {fa a : Addr} {tt : List (Addr × Addr)} {s1 : Shared} {vals : List Value} {ns : List Int}
    (KX : K.In s1.heap) (hns : s1.heap.Ns mainGlobals mg) (hb : s1.heap.Ns builtinsNs mb) (hbb : ∀ x : Str, x ≠ "__name__" → mb x = bootBuiltins x) (hlim : s1.heap.NoLimit) (hg : s1.gens = #[])
    (hT : ∀ p ∈ tt, s1.heap.get? p.2 = some { cls := .none, data := .fields #[] }) (nT : ∀ p ∈ tt, K.lookup p.2 = none) (hC : ∀ p ∈ tt, PySem.W.CodeHd s1.heap p.1 p.2)
    (hbm : ∃ (bm : Addr) (ob : Obj), mg "__builtins__" = some (.ref bm) ∧ bm ≠ builtinsNs ∧ s1.heap.get? bm = some ob ∧ ob.cls = .type "module" ∧ ob.dict = some builtinsNs ∧ ob.data = .plain)
    (ha : s1.heap.get? a = some { cls := .type "list", data := .seq vals.toArray }) (hi : IntsAre vals ns) (hl : ns.length ≤ sizeLine) (F : LawRun P w K mg fa tt ns) :
    codeAny (model P w) callerA (.call (.ref fa) ⟨[.ref a], []⟩) (fun r s' => r = .ok (.ret (.bool true)) ∧ OldK s1.heap s'.heap ∧ s'.os = s1.os ∧ AllBare s'.gens) s1 := by
  have relV := vals_ints hi
  have lenV := hi.length
  have tabAt : ∀ b : Addr, b ∈ tt.map (·.2) → s1.heap.get? b = some { cls := .none, data := .fields #[] } := fun b hb => by
    obtain ⟨p, hp, e⟩ := List.mem_map.mp hb
    rw [← e]; exact hT p hp
  have notTab : a ∉ tt.map (·.2) := fun y => by
    have q := tabAt a y
    rw [ha] at q
    have y' : Data.seq vals.toArray _ = Data.fields #[] := congrArg Obj.data (Option.some.inj q)
    cases y'
  have inT : ∀ p ∈ tt, p.2 ∈ tt.map (·.2) := fun p hp => List.mem_map.mpr ⟨p, hp, rfl⟩
  have main : ∀ H : Hp, (∀ p ∈ tt, H p.2 = some (.tbl #[])) → (∀ b, H b = none ∨ b ∈ tt.map (·.2) ∨ ∃ o xs, H b = some (.frz o (.lst xs))) → ScL K H a (ns.map V.int) → HOk P w H s1.heap → (∀ b, H b ≠ none → b = a ∨ b ∈ tt.map (·.2)) → (H a ≠ none → K.lookup a = none) →
      codeAny (model P w) callerA (.call (.ref fa) ⟨[.ref a], []⟩) (fun r s' => r = .ok (.ret (.bool true)) ∧ OldK s1.heap s'.heap ∧ s'.os = s1.os ∧ AllBare s'.gens) s1 := by
    intro H hH hO hS hok hA hK
    have under : ∀ {b : Addr} {o : Obj}, s1.heap.get? b = some o → H b = none → (hidT s1.heap H).get? b = some o := fun e n => hidT_get e n
    have off : ∀ {b : Addr} {o : Obj}, s1.heap.get? b = some o → (∀ vs n, o.data ≠ .seq vs n) → o.data ≠ .fields #[] → H b = none := fun {b o} e y1 y2 => by
      cases q : H b with
      | none => rfl
      | some u =>
        rcases hA b (by rw [q]; simp) with e' | e'
        · rw [e', ha] at e; cases e
          exact (y1 _ _ rfl).elim
        · rw [tabAt b e'] at e; cases e
          exact (y2 rfl).elim
    have offD : ∀ {b : Addr} {o : Obj} {es : Array DictEntry} {ep : Nat}, s1.heap.get? b = some o → o.data = .dict es ep → H b = none := fun {b o es ep} e d => by
      refine off e (fun vs n y => ?_) fun y => ?_
      · rw [d] at y; cases y
      · rw [d] at y; cases y
    have keepNs : ∀ {b : Addr} {m : Str → Option Value}, s1.heap.Ns b m → (hidT s1.heap H).Ns b m := fun {b m} ⟨o, es, ep, e, d, r⟩ => ⟨o, es, ep, under e (offD e d), d, r⟩
    have inB : K.In (hidT s1.heap H) := fun b o e => under (KX b o e) (by
      cases q : H b with
      | none => rfl
      | some u =>
        rcases hA b (by rw [q]; simp) with e' | e'
        · rw [e'] at e q
          rw [hK (by rw [q]; simp)] at e; cases e
        · obtain ⟨p, hp, ep⟩ := List.mem_map.mp e'
          rw [← ep, nT p hp] at e; cases e)
    have modB : L2.Mod K mg (hidT s1.heap H) := ⟨inB, keepNs hns, ⟨mb, keepNs hb, hbb⟩, let ⟨mc, y1, y2⟩ := hlim; ⟨mc, keepNs y1, y2⟩⟩
    have TBs : ∀ p ∈ tt, TabB (hidT s1.heap H) mg p.1 p.2 := fun p hp => by
      have hTp := hT p hp
      refine ⟨?_, ?_, fun y => ?_⟩
      · obtain ⟨o, us, file, tf, flags, tg, inF, text, tx, e1, r1, r2, r3, r4, r5, r6, r7, r8, hne⟩ := hC p hp
        refine ⟨o, us, file, tf, flags, tg, inF, text, tx, under e1 (off e1 (fun vs n y => ?_) fun y => ?_), r1, r2, r3, r4, r5, r6, r7, r8, hne⟩
        · rw [r2] at y; cases y
        · rw [r2] at y; cases y
          simp at r3
      · obtain ⟨bm, ob, b1, b2, b3, b4, b5, b6⟩ := hbm
        have y1 : bm ≠ mainGlobals := fun q => by
          obtain ⟨o, es, ep, e, hd, _⟩ := hns
          rw [q, e] at b3; cases b3
          rw [hd] at b6; cases b6
        have y2 : bm ≠ p.2 := fun q => by
          rw [q, hTp] at b3; cases b3
          cases b6
        refine ⟨bm, ob, b1, b2, y1, y2, under b3 (off b3 (fun vs n y => ?_) fun y => ?_), b4, b5, b6⟩
        · rw [b6] at y; cases y
        · rw [b6] at y; cases y
      · obtain ⟨o, es, ep, e, hd, _⟩ := hns
        rw [y, hTp] at e; cases e
        cases hd
    have e0 : Env0 P w K mg (hidT s1.heap H) callerA [] s1 H := ⟨rfl, modB, fun b o e => of_hidT e, Nat.le_of_eq (hidT_size _ _), trivial, fun b hb => absurd (show b ∈ ([] : List Addr) from hb) (by simp), hok, .of_eq hg⟩
    refine codeAny_mono (F _ inB (keepNs hns) TBs s1 H a e0 hH hS) fun r s' h => ?_
    cases r with
    | error e =>
      obtain ⟨_, _, _, _, _, _, _, _, _, _, _, _, y⟩ := h
      exact y.elim
    | ok fl =>
      cases fl with
      | next => exact False.elim h
      | brk => exact False.elim h
      | cont => exact False.elim h
      | ret u =>
        obtain ⟨v, H', os, bare, un, hok', r', q⟩ := h
        have q' : v = .bl true := q
        subst q'
        obtain rfl : u = Value.bool true := r'
        have same : ∀ b o, b ∉ tt.map (·.2) → s1.heap.get? b = some o → s'.heap.get? b = some o := fun b o nb e => by
          cases q : H b with
          | none => exact un.keep b o e q (by intro y; exact absurd (show b ∈ ([] : List Addr) from y) (by simp)) (by simp)
          | some u =>
            rcases hO b with y | y | ⟨ob, xs, y⟩
            · rw [q] at y; cases y
            · exact absurd y nb
            · have y2 := un.frzs b ob _ y
              obtain ⟨e1, _⟩ := hok b _ y
              obtain ⟨e2, _⟩ := hok' b _ y2
              rw [e] at e1; cases e1
              exact e2
        have more : ∀ p ∈ tt, ∃ mo : Array Value, s'.heap.get? p.2 = some { cls := .none, data := .fields mo } := fun p hp => by
          obtain ⟨mo, y⟩ := un.tbls p.2 #[] (hH p hp)
          exact ⟨_, hok' p.2 _ y⟩
        refine ⟨rfl, ⟨fun b o e => ?_, fun b o e => ?_⟩, os, bare⟩
        · by_cases hb : b ∈ tt.map (·.2)
          · obtain ⟨p, hp, ep⟩ := List.mem_map.mp hb
            obtain ⟨mo, hm⟩ := more p hp
            rw [← ep] at e ⊢
            rw [hT p hp] at e; cases e
            exact .inr (.inl ⟨((hC p hp).tab (hT p hp)).isCodeTable, rfl, #[], mo, rfl, by rw [Array.empty_append]; exact hm⟩)
          · exact .inl (same b o hb e)
        · by_cases hb : b ∈ tt.map (·.2)
          · obtain ⟨p, hp, ep⟩ := List.mem_map.mp hb
            obtain ⟨mo, hm⟩ := more p hp
            rw [← ep]; exact ⟨_, hm⟩
          · exact ⟨o, same b o hb e⟩
  cases hk : K.lookup a with
  | some o =>
    have e := KX a o hk
    rw [ha] at e; cases e
    refine main (fun b => if b ∈ tt.map (·.2) then some (.tbl #[]) else none) (fun p hp => if_pos (inT p hp)) (fun b => ?_) (.inr ⟨_, vals.toArray, _, hk, rfl, rfl, rfl, by rw [List.size_toArray, lenV]; exact hl, by simpa using relV⟩) (fun b u y => ?_) (fun b y => ?_) fun y => absurd (show (if a ∈ tt.map (·.2) then some (HO.tbl #[]) else none) = none from if_neg notTab) y
    · by_cases hb : b ∈ tt.map (·.2)
      · exact .inr (.inl hb)
      · exact .inl (if_neg hb)
    · by_cases hb : b ∈ tt.map (·.2)
      · have y' := (if_pos hb).symm.trans y
        cases y'
        exact tabAt b hb
      · have y' := (if_neg hb).symm.trans y
        cases y'
    · by_cases hb : b ∈ tt.map (·.2)
      · exact .inr hb
      · exact absurd (if_neg hb) y
  | none =>
    refine main (fun b => if b = a then some (.frz { cls := .type "list", data := .seq vals.toArray } (.lst (ns.map V.int))) else if b ∈ tt.map (·.2) then some (.tbl #[]) else none) (fun p hp => (if_neg (show ¬ p.2 = a from fun y => notTab (by rw [← y]; exact inT p hp))).trans (if_pos (inT p hp))) (fun b => ?_)
      (.inl ⟨{ cls := .type "list", data := .seq vals.toArray }, if_pos rfl⟩) (fun b u y => ?_) (fun b y => ?_) fun _ => hk
    · by_cases hb : b = a
      · exact .inr (.inr ⟨_, _, if_pos hb⟩)
      · by_cases hb2 : b ∈ tt.map (·.2)
        · exact .inr (.inl hb2)
        · exact .inl ((if_neg hb).trans (if_neg hb2))
    · by_cases hb : b = a
      · have y' := (if_pos hb).symm.trans y
        cases y'
        rw [hb]
        exact ⟨ha, by rw [List.length_map]; exact hl, vals, _, relV, ha⟩
      · have y1 := (if_neg hb).symm.trans y
        by_cases hb2 : b ∈ tt.map (·.2)
        · have y' := (if_pos hb2).symm.trans y1
          cases y'
          exact tabAt b hb2
        · have y' := (if_neg hb2).symm.trans y1
          cases y'
    · by_cases hb : b = a
      · exact .inl hb
      · by_cases hb2 : b ∈ tt.map (·.2)
        · exact .inr hb2
        · exact absurd ((if_neg hb).trans (if_neg hb2)) y
/-- from the head's heap: the law's def keeps the law -/
theorem law_walk {l : PySem.W.OpenLaw} {n : Nat} {q : Program} {loose : List Str} {XP : (Str → Option Value) → Heap → Prop} {YP : World → Heap → Prop} {d : DefRec}
    (hn : l.most = some n) (hn2 : n ≤ sizeLine) (hdf : d.params.defaults = [])
    (F : ∀ (w : World) (mg : Str → Option Value) (fa : Addr) (h : Heap), YP w h → h.Ns mainGlobals mg → mg d.name = some (.ref fa) →
      ∃ (K : PySem.W.Frag) (tt : List (Addr × Addr)), K.In h ∧ (∀ p ∈ tt, h.get? p.2 = some { cls := .none, data := .fields #[] }) ∧ (∀ p ∈ tt, K.lookup p.2 = none) ∧ (∀ p ∈ tt, PySem.W.CodeHd h p.1 p.2) ∧
        ∀ ns : List Int, ns.length ≤ n → (∀ z ∈ ns, Builtin.Int.intBits z ≤ 1048576) → LawRun l.prog w K mg fa tt ns) :
    PySem.W.WalkO q loose XP YP l.row.toRowW d [] (fun f vs => PySem.call f vs) := by
  refine Att.attach_callB hn hdf fun w s₀ s₁ mg mb fa o pm cd doc a vs ns G Y ho hd hcd hmg hobj hints hlen hbits hg => ?_
  obtain ⟨K, tt, KX, hT, nT, hC, hF⟩ := F w mg fa _ Y G.T.g hmg
  exact law_end KX G.T.g G.T.b G.T.builtins G.T.nolimit hg hT nT hC G.T.bmain hobj hints (Nat.le_trans hlen hn2) (hF ns hlen hbits)
end PyD
end
section
set_option Elab.async false
set_option linter.all false
set_option maxRecDepth 100000
set_option maxHeartbeats 4000000
namespace PyD
open PySem PySem.Spec PyProof.Rows L2 He
/-- a fact about the written part, that a program can look up -/
inductive FaP where
  | he (f : He.Fa)
  | sup (c f : Str)
  | errc (c : Str)
  | insc (c : Str)
  | kit (c' c : Str) (b : Bool)
  | kitT (c : Str)
  | eqc (c : Str)
  | xget (c f : Str)
def oB (a b : Option Bool) : Bool := decide (a = b)
def veOf (K : PySem.W.Frag) (C : Addr) : Bool := match K.lookup C with
  | some ⟨.type "type", _, .cls cd, sl⟩ => (match cd.mro, sl.toList with
    | .ref C' :: bm, [_, _, _, _, some (.builtin n), _] => C' == C && n == "ValueError.__new__" && !cd.hasDel && cd.hasDict && PySem.HandSPX.refsVE bm
    | _, _ => false)
  | _ => false
theorem veOf_ok {K : PySem.W.Frag} {C : Addr} (h : veOf K C = true) : ∃ nm q N bs bm sn sub ab col dd k0 k1 k2 k3 k5, K.lookup C = some (excClassObj nm q C N bs bm true sn sub ab col dd k0 k1 k2 k3 k5 "ValueError.__new__") ∧ PySem.HandSPX.refsVE bm = true := by
  unfold veOf at h
  split at h
  · rename_i dd cd sl ho
    split at h
    · rename_i C' bm k0 k1 k2 k3 n k5 hm hs
      simp only [Bool.and_eq_true, beq_iff_eq, Bool.not_eq_true'] at h
      obtain ⟨⟨⟨⟨rfl, rfl⟩, h1⟩, h2⟩, h3⟩ := h
      obtain ⟨nm, bs, mro, ns, qn, hd, sn, sub, ab, col, del⟩ := cd
      dsimp only at hm h1 h2
      subst hm h1 h2
      have hsl : sl = #[k0, k1, k2, k3, some (.builtin "ValueError.__new__"), k5] := by
        obtain ⟨l⟩ := sl
        simp only at hs
        rw [hs]
      subst hsl
      exact ⟨nm, qn, ns, bs, bm, sn, sub, ab, col, dd, k0, k1, k2, k3, k5, ho, h3⟩
    · cases h
  · cases h
/-- the function at f, in a closure over the class cell -/
def supFn (K : PySem.W.Frag) (C f : Addr) (file : Str) : Bool := match K.lookup f with
  | some ⟨_, _, .func fd, _⟩ => (match fd.closure, fd.code, fd.defaults, fd.kwdefaults with
    | [(x, cc)], .ref cda, .none, .none => decide (x = ("__class__" : Str)) && PySem.W.codeIn K (.ref cda) fd.qualname &&
        (match K.lookup cda with | some ⟨_, _, .fields vs, _⟩ => (match (vs[2]? : Option Value) with | some (.str fl _) => decide (file = fl) | _ => false) | _ => false) &&
        (match K.lookup cc with | some ⟨_, _, .cell (some (.ref C')), _⟩ => decide (C' = C) | _ => false)
    | _, _, _, _ => false)
  | _ => false
def eqcB (K : PySem.W.Frag) (C f : Addr) : Bool := match K.lookup C with
  | some ⟨.type "type", _, .cls cd, sl⟩ => (match cd.mro, sl.toList with
    | [.ref C', .type o], [_, _, _, _, some (.builtin n), _] => C' == C && o == "object" && !cd.hasDel && PySem.W.nsOkIn K cd.ns && eqO (PySem.W.nsIn K cd.ns "__eq__") (some (some (.ref f))) && eqO (PySem.W.nsIn K cd.ns "__ne__") (some none) &&
        (match K.lookup f with | some ob => decide (ob.cls = .type "function") | none => false)
    | _, _ => false)
  | _ => false
def FaP.ok (file : Str) (K : PySem.W.Frag) : FaP → Bool
  | .he f => f.ok K
  | .sup c f => eqO (PySem.W.findIn K (.ref (ga K c)) "__setattr__") (some (some (.builtin "object.__setattr__"))) && (eqO (PySem.W.findIn K (.ref (ga K c)) f) (some none) && (eqO (PySem.W.findIn K (.ref (ga K c)) "__init__") (some (some (.ref (ma K (ga K c) "__init__")))) &&
      (decide (PySem.W.typeIn K (.ref (ma K (ga K c) "__init__")) = some (.type "function")) && (PySem.W.keepIn K (.ref (ga K c)) && (oB (PySem.W.subIn K (.ref (ga K c)) (.type "BaseException")) (some true) && (oB (PySem.W.subIn K (.ref (ga K c)) (.type "ValueError")) (some true) &&
      (decide (PySem.W.typeIn K (.ref (ga K c)) = some (.type "type")) && (eqO (PySem.W.ks_superIn K (ga K c) (ga K c) "__init__") (some (some (.builtin "ValueError.__init__"))) && (oB (PySem.W.mroIn K (ga K c) (.ref (ga K c))) (some true) && (eqO (PySem.W.nsIn K cStatics "thirdparty.any") (some none) &&
      (veOf K (ga K c) && supFn K (ga K c) (ma K (ga K c) "__init__") file)))))))))))
  | .errc c => eqO (PySem.W.findIn K (.ref (ga K c)) "__getattribute__") (some (some (.builtin "BaseException.__getattribute__"))) && (eqO (PySem.W.findIn K (.ref (ga K c)) "__getattr__") (some none) && (oB (PySem.W.subIn K (.ref (ga K c)) (.type "BaseException")) (some true) &&
      (PySem.W.hasDictIn K (ga K c) && (eqO (PySem.W.findIn K (.ref (ga K c)) "__class__") (some (some (.builtin "object.__class__"))) && (eqO (PySem.W.specialIn K (.builtin "object.__class__") "__get__") (some (some (.builtin "getset_descriptor.__get__"))) &&
      (oB (PySem.W.takesIn K (.builtin "object.__class__")) (some true) && oB (PySem.W.mroIn K (ga K c) (.type "object")) (some true)))))))
  | .insc c => (He.Fa.cls c).ok K && (eqO (PySem.W.findIn K (.ref (ga K c)) "__class__") (some (some (.builtin "object.__class__"))) && (eqO (PySem.W.specialIn K (.builtin "object.__class__") "__get__") (some (some (.builtin "getset_descriptor.__get__"))) &&
      (oB (PySem.W.takesIn K (.builtin "object.__class__")) (some true) && oB (PySem.W.mroIn K (ga K c) (.type "object")) (some true))))
  | .kit c' c b => oB (PySem.W.kitOne K (.ref (ga K c')) (.ref (ga K c))) (some b)
  | .kitT c => ["NoneType", "bool", "int", "str", "tuple", "list", "dict"].all fun t => oB (PySem.W.kitOne K (.type t) (.ref (ga K c))) (some false)
  | .eqc c => eqO (PySem.W.findIn K (.ref (ga K c)) "__eq__") (some (some (.ref (ma K (ga K c) "__eq__")))) && (PySem.W.isFn K (.ref (ma K (ga K c) "__eq__")) && eqcB K (ga K c) (ma K (ga K c) "__eq__"))
  | .xget c f => eqO (PySem.W.findIn K (.ref (ga K c)) f) (some none)
section
variable {K : PySem.W.Frag} {file c f : Str}
theorem oB_ok {a b : Option Bool} (h : oB a b = true) : a = b := of_decide_eq_true h
theorem errc_ok (h : (FaP.errc c).ok file K = true) : ExcC K (ga K c) := by
  obtain ⟨h1, h⟩ := ba h
  obtain ⟨h2, h⟩ := ba h
  obtain ⟨h3, h⟩ := ba h
  obtain ⟨h4, h⟩ := ba h
  obtain ⟨h5, h⟩ := ba h
  obtain ⟨h6, h⟩ := ba h
  obtain ⟨h7, h8⟩ := ba h
  exact ⟨eqO_ok h1, eqO_ok h2, oB_ok h3, h4, eqO_ok h5, eqO_ok h6, oB_ok h7, oB_ok h8⟩
theorem insc_ok (h : (FaP.insc c).ok file K = true) : InsC K (ga K c) := by
  obtain ⟨h1, h⟩ := ba h
  obtain ⟨h2, h⟩ := ba h
  obtain ⟨h3, h⟩ := ba h
  obtain ⟨h4, h5⟩ := ba h
  exact ⟨cls_ok h1, eqO_ok h2, eqO_ok h3, oB_ok h4, oB_ok h5⟩
theorem kitT_ok (h : (FaP.kitT c).ok file K = true) : ∀ t ∈ ["NoneType", "bool", "int", "str", "tuple", "list", "dict"], PySem.W.kitOne K (.type t) (.ref (ga K c)) = some false := fun t ht => oB_ok (List.all_eq_true.mp h t ht)
theorem kit_ok {c' : Str} {b : Bool} (h : (FaP.kit c' c b).ok file K = true) : PySem.W.kitOne K (.ref (ga K c')) (.ref (ga K c)) = some b := oB_ok h
theorem eqcB_ok {C f : Addr} (h : eqcB K C f = true) : ∃ (of : Obj) (nm q : Str) (N : Addr) (bs : List Value) (hdct : Bool) (sn : List Str) (sub : List Value) (ab : Bool) (col : Option Bool) (dd : Option Addr) (k0 k1 k2 k3 k5 : Option Value) (newId : String),
      K.lookup C = some (excClassObj nm q C N bs [.type "object"] hdct sn sub ab col dd k0 k1 k2 k3 k5 newId) ∧ PySem.W.nsOkIn K N = true ∧ PySem.W.nsIn K N "__eq__" = some (some (.ref f)) ∧ PySem.W.nsIn K N "__ne__" = some none ∧ K.lookup f = some of ∧ of.cls = .type "function" := by
  unfold eqcB at h
  split at h
  · rename_i dd cd sl ho
    split at h
    · rename_i C' o k0 k1 k2 k3 n k5 hm hs
      simp only [Bool.and_eq_true, beq_iff_eq, Bool.not_eq_true'] at h
      obtain ⟨⟨⟨⟨⟨⟨rfl, rfl⟩, h1⟩, h2⟩, h3⟩, h4⟩, h5⟩ := h
      obtain ⟨nm, bs, mro, ns, qn, hd, sn, sub, ab, col, del⟩ := cd
      dsimp only at hm h1 h2 h3 h4
      subst hm h1
      have hsl : sl = #[k0, k1, k2, k3, some (.builtin n), k5] := by
        obtain ⟨l⟩ := sl
        simp only at hs
        rw [hs]
      subst hsl
      cases ef : K.lookup f with
      | none => rw [ef] at h5; cases h5
      | some ob =>
        rw [ef] at h5
        exact ⟨ob, nm, qn, ns, bs, hd, sn, sub, ab, col, dd, k0, k1, k2, k3, k5, n, ho, h2, eqO_ok h3, eqO_ok h4, rfl, of_decide_eq_true h5⟩
    · cases h
  · cases h
end
abbrev FnO : Type := Option (Str × Str × Arguments × FuncBody × Scope × Addr × List Str × Value × Addr)
def fnP (K : PySem.W.Frag) (p : Str × Option Str) : FnO := match K.lookup (fAd K p) with
  | some ⟨_, _, .func fd, _⟩ => some (fd.name, fd.qualname, fd.params, fd.body, fd.scope, fd.globals, fd.closure.map (·.1), fd.defaults, fd.builtins)
  | _ => none
structure FnQ where
  at_ : Str × Option Str
  name : Str
  qual : Str
  params : Arguments
  body : List Stmt
  scope : Scope
  clo : List Str := []
def FnQ.val (d : FnQ) : FnO := some (d.name, d.qual, d.params, .stmts d.body, d.scope, mainGlobals, d.clo, .none, builtinsNs)
def FnQ.ok (K : PySem.W.Frag) (d : FnQ) : Bool := (match K.lookup (fAd K d.at_) with
  | some ⟨_, _, .func fd, _⟩ => PySem.W.codeIn K fd.code d.qual
  | _ => false) && PySem.W.keepIn K (.ref (fAd K d.at_))
/-- what is known of a def -/
structure FnAt (K : PySem.W.Frag) (d : FnQ) : Prop where
  ex : ∃ (oc : Value) (od : Option Addr) (osl : Array (Option Value)) (cl : List (Str × Addr)) (kV doc pm : Value) (an : Option Addr) (cdv ct : Value),
    K.lookup (fAd K d.at_) = some ⟨oc, od, .func (PySem.W.fnX d.name d.qual d.params d.body d.scope cl .none kV doc pm an cdv ct), osl⟩ ∧ cl.map (·.1) = d.clo ∧ PySem.W.codeIn K cdv d.qual = true ∧ PySem.W.keepIn K (.ref (fAd K d.at_)) = true
theorem FnAt.of {K : PySem.W.Frag} {d : FnQ} (e : fnP K d.at_ = d.val) (h : d.ok K = true) : FnAt K d := by
  obtain ⟨h1, h2⟩ := ba h
  unfold fnP at e
  cases q : K.lookup (fAd K d.at_) with
  | none => rw [q] at h1; cases h1
  | some o =>
    obtain ⟨oc, od, dt, osl⟩ := o
    rw [q] at h1 e
    cases dt with
    | func fd =>
      obtain ⟨n1, n2, n3, n4, n5, n6, n7, n8, n9, n10, n11, n12, n13, n14, n15⟩ := fd
      have e2 : (some (n1, n2, n3, n4, n5, n6, n7.map (·.1), n8, n15) : FnO) = some (d.name, d.qual, d.params, .stmts d.body, d.scope, mainGlobals, d.clo, .none, builtinsNs) := e
      simp only [Option.some.injEq, Prod.mk.injEq] at e2
      obtain ⟨h3, h4, h5, h6, h7, h8, h9, h10, h11⟩ := e2
      subst h3 h4 h5 h6 h7 h8 h10 h11
      exact ⟨oc, od, osl, n7, n9, n10, n11, n12, n13, n14, q, h9, h1, h2⟩
    | _ => cases h1
/-- the code object of a def and its table of code objects -/
def tabP (K : PySem.W.Frag) (x : Str) : Option (Addr × Addr) := match K.lookup (ga K x) with
  | some ⟨_, _, .func fd, _⟩ => (match fd.code with
    | .ref c => (match K.lookup c with
      | some ⟨_, _, .fields vs, _⟩ => (match (vs[11]? : Option Value) with
        | some (.ref P) => some (c, P)
        | _ => none)
      | _ => none)
    | _ => none)
  | _ => none
def tabsP (K : PySem.W.Frag) (lam : List Str) : List (Addr × Addr) := lam.filterMap fun x => tabP K x
/-- the written part without the tables -/
def partP (g : Addr → Option Obj) (n : Nat) (lam : List Str) : PySem.W.Frag × List (Addr × Addr) :=
  let K1 := frG g (cStatics :: asD g n)
  let tt := tabsP K1 lam
  (K1.filter fun p => !(tt.map (·.2)).contains p.1, tt)
abbrev AlP : Type := Bool × List FnO
def tabOkB (g : Addr → Option Obj) (K : PySem.W.Frag) (lam : List Str) (tt : List (Addr × Addr)) : Bool :=
  (tt.all fun p => PySem.W.codeHdIn K p.1 p.2 && (match g p.2 with | some ⟨.none, none, .fields vs, sl⟩ => vs.isEmpty && sl.isEmpty | _ => false)) && (decide (tt.length = lam.length) && decide ((tt.map (·.2)).Nodup) && decide (tabsP K lam = tt))
def obsP (file : Str) (n : Nat) (lam : List Str) (fa : List FaP) (fn : List FnQ) (g : Addr → Option Obj) : AlP :=
  let q := partP g n lam
  (tabOkB g q.1 lam q.2 && ((fa.all fun f => f.ok file q.1) && fn.all fun d => d.ok q.1), fn.map fun d => fnP q.1 d.at_)
def valP (fn : List FnQ) : AlP := (true, fn.map FnQ.val)
/-- what the end leans on -/
structure SaysP (file : Str) (lam : List Str) (fa : List FaP) (fn : List FnQ) (K : PySem.W.Frag) (tt : List (Addr × Addr)) (h : Heap) : Prop where
  kin : K.In h
  tab : ∀ p ∈ tt, h.get? p.2 = some { cls := .none, data := .fields #[] }
  off : ∀ p ∈ tt, K.lookup p.2 = none
  code : ∀ p ∈ tt, PySem.W.CodeHd h p.1 p.2
  len : tt.length = lam.length
  nd : (tt.map (·.2)).Nodup
  tabs : tabsP K lam = tt
  fact : ∀ f ∈ fa, f.ok file K = true
  fns : ∀ d ∈ fn, FnAt K d
theorem lookup_filter {p : Addr → Bool} {a : Addr} {o : Obj} : ∀ {K : PySem.W.Frag}, (K.filter fun q => p q.1).lookup a = some o → K.lookup a = some o
  | [], h => h
  | (b, u) :: K, h => by
    by_cases hp : p b = true
    · rw [List.filter_cons_of_pos (by simpa using hp)] at h
      rw [List.lookup_cons] at h ⊢
      cases e : (a == b) with
      | true => rw [e] at h; exact h
      | false => rw [e] at h; exact lookup_filter h
    · rw [List.filter_cons_of_neg (by simpa using hp)] at h
      rw [List.lookup_cons]
      have h2 := lookup_filter h
      cases e : (a == b) with
      | true =>
        exfalso
        have : a = b := beq_iff_eq.mp e
        subst this
        have no : ∀ K : PySem.W.Frag, (K.filter fun q => p q.1).lookup a = none := by
          intro K
          induction K with
          | nil => rfl
          | cons q K ih =>
            by_cases hq : p q.1 = true
            · rw [List.filter_cons_of_pos (by simpa using hq), List.lookup_cons]
              have : (a == q.1) = false := by
                rw [beq_eq_false_iff_ne]
                intro z; rw [z] at hp; exact hp hq
              rw [this]; exact ih
            · rw [List.filter_cons_of_neg (by simpa using hq)]; exact ih
        rw [no] at h; cases h
      | false => exact h2
theorem lookup_gone {l : List Addr} {a : Addr} (ha : a ∈ l) : ∀ K : PySem.W.Frag, (K.filter fun q => !l.contains q.1).lookup a = none
  | [] => rfl
  | (b, u) :: K => by
    by_cases hb : l.contains b = true
    · rw [List.filter_cons_of_neg (by simpa using hb)]
      exact lookup_gone ha K
    · rw [List.filter_cons_of_pos (by simpa using hb), List.lookup_cons]
      have : (a == b) = false := by
        rw [beq_eq_false_iff_ne]
        intro z; subst z
        exact hb (by simpa using ha)
      rw [this]
      exact lookup_gone ha K
def hookP (file : Str) (n : Nat) (lam : List Str) (fa : List FaP) (fn : List FnQ) : PySem.W.Hook where
  α := AlP
  obs := fun s => obsP file n lam fa fn s.heap.get?
  val := fun _ => valP fn
  says := fun _ h => ∃ (K : PySem.W.Frag) (tt : List (Addr × Addr)), SaysP file lam fa fn K tt h
  of := fun _ s e => by
    have kin : (partP s.heap.get? n lam).1.In s.heap := fun a o h => frG_at _ (lookup_filter (p := fun b : Addr => !(List.map (fun y : Addr × Addr => y.2) (tabsP (frG s.heap.get? (cStatics :: asD s.heap.get? n)) lam)).contains b) (K := frG s.heap.get? (cStatics :: asD s.heap.get? n)) h)
    have e1 := congrArg Prod.fst e
    have e2 : fn.map (fun d => fnP (partP s.heap.get? n lam).1 d.at_) = fn.map FnQ.val := congrArg Prod.snd e
    obtain ⟨t1, t2⟩ := ba (show (tabOkB s.heap.get? (partP s.heap.get? n lam).1 lam (partP s.heap.get? n lam).2 && _) = true from e1)
    obtain ⟨t2, t3⟩ := ba t2
    obtain ⟨t4, t5⟩ := ba t1
    obtain ⟨t5, t6⟩ := ba t5
    obtain ⟨t5, t7⟩ := ba t5
    refine ⟨_, _, kin, fun p hp => ?_, fun p hp => lookup_gone (List.mem_map.mpr ⟨p, hp, rfl⟩) _, fun p hp => PySem.W.codeHd_of_K kin (ba (List.all_eq_true.mp t4 p hp)).1, of_decide_eq_true t5, of_decide_eq_true t7, of_decide_eq_true t6, fun f hf => List.all_eq_true.mp t2 f hf, fun d hd => ?_⟩
    · have z := (ba (List.all_eq_true.mp t4 p hp)).2
      split at z
      · rename_i vs sl hq
        obtain ⟨z1, z2⟩ := ba z
        have e3 : vs = #[] := by simpa using z1
        have e4 : sl = #[] := by simpa using z2
        rw [hq, e3, e4]
      · cases z
    · obtain ⟨i, hi, ei⟩ := List.getElem_of_mem hd
      have e3 : (fn.map fun d => fnP (partP s.heap.get? n lam).1 d.at_)[i]? = (fn.map FnQ.val)[i]? := by rw [e2]
      rw [List.getElem?_map, List.getElem?_map, List.getElem?_eq_getElem hi, ei] at e3
      exact FnAt.of (Option.some.inj e3) (List.all_eq_true.mp t3 d hd)
  keeps := fun _ h h' ⟨K, tt, S⟩ k => ⟨K, tt, PySem.W.Frag.In.keeps S.kin k, fun p hp => k _ _ (S.tab p hp), S.off, fun p hp => (S.code p hp).keeps k, S.len, S.nd, S.tabs, S.fact, S.fns⟩
theorem obsP_eq {file : Str} {n : Nat} {lam : List Str} {fa : List FaP} {fn : List FnQ} {g : Addr → Option Obj} {s : Shared} (h : ∀ a, g a = s.heap.get? a) : obsP file n lam fa fn g = (hookP file n lam fa fn).obs s := by
  have e : g = s.heap.get? := funext h
  rw [e] <;> rfl
end PyD
end
section
set_option Elab.async false
set_option linter.all false
set_option maxRecDepth 100000
set_option maxHeartbeats 2000000
namespace PyD
open PySem PySem.Spec PyProof.Rows L2
section
variable {R : RC} {T : Tab} {cc : CC} {Γ : Env'}
theorem test_of_value {X : Cx} {a b : Expr} {op : CmpOp} {pos : Pos} {t : TE} (h : PE X (.Compare a [op] [b] pos) t) : PT X (.Compare a [op] [b] pos) (tB t) := by
  refine ⟨fun pins s σ H Q I hw => ?_⟩
  have e : ∀ whole, isTrue (.Compare a [op] [b] pos) X.env whole = (do let c ← eval (.Compare a [op] [b] pos) X.env; holding [c] (truthy c)) := fun whole => by
    rw [isTrue_Compare1, eval_Compare1]
    simp only [bind_assoc]
  rw [e]
  refine wpAny_bind (thn (h.run pins s σ H _ I hw) fun v s1 ⟨x, H1, I1, r1, q1⟩ => ?_)
  obtain ⟨d, rfl, q⟩ := q1
  cases r1
  exact wpAny_holding (wpAny_truthy_bool ⟨H1, I1, q⟩)
theorem SndT.eqi {neg : Bool} {a b : Expr} {ea eb : E} {op : CmpOp} {pos : Pos} (hop : op = if neg then .NotEq else .Eq) (hq : ∀ c, Γ.eqs.contains c = true → ∃ k F, EqC R T k c F ∧ Γ.fn (c ++ ".__eq__") = F ∧ k + 1 ≤ cc.k)
    (ha : SndE R T cc Γ a ea) (hb : SndE R T cc Γ b eb) (hm : behindInMarks op b = false := by rfl) : SndT R T cc Γ (.Compare a [op] [b] pos) (.eqi neg ea eb) := fun X W cx tk =>
  PT.imp (test_of_value (SndE.eqi hop hq ha hb hm X W cx tk)) fun σ H Q h => h
theorem SndT.chn {a b c0 : Expr} {ea eb ec : E} {op op' : CmpOp} {pos : Pos} (ha : SndE R T cc Γ a ea) (hb : SndE R T cc Γ b eb) (hc : SndE R T cc Γ c0 ec) (hm : behindInMarks op' c0 = false := by rfl) : SndT R T cc Γ (.Compare a [op, op'] [b, c0] pos) (.chn op op' ea eb ec) := fun X W c tk => by
  refine PT.imp (pt_chain (op_cmp c op) (op_cmp c op') (pe_frz (ha X W c tk)) (pe_frz (hb X W c tk)) (pe_frz (hc X W c tk)) (lm2 hm)) fun σ H Q ⟨ρ, loc, g, S, q⟩ => ?_
  unfold den at q
  refine rd_mono (rd_bind (f := den Γ ea) (k := fun loc x g1 => (den Γ eb loc g1).bind fun y g2 => match cmpD op x y with
    | some true => (den Γ ec loc g2).bind fun z g3 => match cmpD op' y z with | some r => .ok false (.bl r) g3 | none => .bad
    | some false => .ok false (.bl false) g2
    | none => .bad) ⟨ρ, loc, g, S, q⟩) fun v H1 ⟨ρ1, loc1, x, g1, r1, S1, a1⟩ => ?_
  refine ⟨ρ1, loc1, g1, S1, ?_⟩
  refine (Ans.bind' S1 a1).mono fun w H2 ⟨ρ2, y, g2, st2, r2, S2, a2⟩ => ?_
  cases e1 : cmpD op x y with
  | none => simp only [e1] at a2; exact a2.elim
  | some b =>
    simp only [e1] at a2
    refine ⟨ρ2, g2, [x, y], false, .bl b, S2.gr, .cons (.inl (Rep.ext st2.n.1 (st2.ext S1.gr) r1)) (.cons (.inl r2) .nil), by simp only [semB, e1], fun z H3 k3 z3 _ => ?_⟩
    have z3' : Rep R ρ2 H3 (.bl b) z := z3
    cases z3'
    have st3 : Stp R T ρ2 ρ2 H2 H3 g2 := Stp.all S2.gr k3
    have S3 := st3.sr S2
    have r2' := Rep.ext st3.n.1 (st3.ext S2.gr) r2
    refine ⟨b, rfl, ?_⟩
    cases b with
    | false =>
      simp only [Bool.false_eq_true, if_false]
      exact ans_ok S3.gr (.bl _) (a2.step st3)
    | true =>
      simp only [if_true] at a2 ⊢
      refine ⟨ρ2, loc1, g2, S3, ?_⟩
      refine (Ans.bind' S3 (a2.step st3)).mono fun u H4 ⟨ρ4, d4, g4, st4, r4, S4, a4⟩ => ?_
      cases e2 : cmpD op' y d4 with
      | none => simp only [e2] at a4; exact a4.elim
      | some c2 =>
        simp only [e2] at a4
        refine ⟨ρ4, g4, [y, d4], false, .bl c2, S4.gr, .cons (.inl (Rep.ext st4.n.1 (st4.ext S3.gr) r2')) (.cons (.inl r4) .nil), by simp only [semB, e2], fun z4 H5 k5 z5 _ => ?_⟩
        exact a4 ρ4 z4 H5 (Stp.all S4.gr k5) z5 fun z => by cases z
end
end PyD
end
section
set_option Elab.async false
set_option linter.all false
set_option maxRecDepth 100000
set_option maxHeartbeats 2000000
namespace PyD
open PySem PySem.Spec PyProof.Rows L2 He
/-- facts as plain data, so that two can be held beside one another -/
def faCode : He.Fa → Nat × Str × Str × Int × Bool × Option Str
  | .glo x => (0, x, "", 0, false, none)
  | .free x => (1, x, "", 0, false, none)
  | .int x i => (2, x, "", i, false, none)
  | .str x z => (3, x, z, 0, false, none)
  | .cls x => (4, x, "", 0, false, none)
  | .noat x f => (5, x, f, 0, false, none)
  | .meth x m => (6, x, m, 0, false, none)
  | .mkr x => (7, x, "", 0, false, none)
  | .exc x => (8, x, "", 0, false, none)
  | .exm x y b => (9, x, y, 0, b, none)
  | .keep x => (10, x, "", 0, false, none)
  | .code p q => (11, p.1, q, 0, false, p.2)
theorem faCode_inj {a b : He.Fa} (h : faCode a = faCode b) : a = b := by
  cases a <;> cases b <;> simp [faCode] at h <;> simp [h]
  rename_i p q p' q'
  obtain ⟨p1, p2⟩ := p
  obtain ⟨r1, r2⟩ := p'
  simp at h
  simp [h]
instance : DecidableEq He.Fa := fun a b => if h : faCode a = faCode b then isTrue (faCode_inj h) else isFalse fun e => h (by rw [e])
def fapCode : FaP → Nat × Option He.Fa × Str × Str × Bool
  | .he f => (0, some f, "", "", false)
  | .sup c f => (1, none, c, f, false)
  | .errc c => (2, none, c, "", false)
  | .insc c => (3, none, c, "", false)
  | .kit a b v => (4, none, a, b, v)
  | .kitT c => (5, none, c, "", false)
  | .eqc c => (6, none, c, "", false)
  | .xget c f => (7, none, c, f, false)
theorem fapCode_inj {a b : FaP} (h : fapCode a = fapCode b) : a = b := by
  cases a <;> cases b <;> simp [fapCode] at h <;> simp [h]
instance : DecidableEq FaP := fun a b => if h : fapCode a = fapCode b then isTrue (fapCode_inj h) else isFalse fun e => h (by rw [e])
/-- parts of the text -/
def clsAt (s : Stmt) (j : Nat) : Stmt := match s with
  | .ClassDef _ _ _ body _ _ _ _ _ _ _ => body.getD j (.Pass ⟨0, 0, 0, 0⟩)
  | _ => .Pass ⟨0, 0, 0, 0⟩
/-- what the head says -/
structure Fx (R : RC) (T : Tab) (file : Str) (lam : List Str) (fa : List FaP) (fn : List FnQ) (lamF : Nat → Option LamT) (kc : Nat) (kwT : Str → List (Nat × List Str)) (tt : List (Addr × Addr)) (h : Heap) : Prop where
  says : SaysP file lam fa fn R.K tt h
  ns : h.Ns mainGlobals R.mg
  tb : ∀ p ∈ tt, LamX.TabB R.base R.mg p.1 p.2
  tT : T = (tt.zip lam).map fun p => (p.1.2, (p.2 ++ (".<locals>." : Str)) ++ ("<lambda>" : Str))
  lam : R.lam = lamF
  kc : R.kc = kc
  kw : R.kwt = kwT
  fileE : ((R.P.main.file : Str) == file) = true
  topE : (R.P.main.scope.names.lookup ("super" : Str)).isSome = false
section
variable {R : RC} {T : Tab} {file : Str} {lam : List Str} {fa : List FaP} {fn : List FnQ} {lamF : Nat → Option LamT} {kc : Nat} {kwT : Str → List (Nat × List Str)} {tt : List (Addr × Addr)} {h : Heap}
variable (F : Fx R T file lam fa fn lamF kc kwT tt h)
include F
theorem Fx.ok {f : FaP} (m : f ∈ fa) : f.ok file R.K = true := F.says.fact f m
theorem Fx.glo {x : Str} (m : FaP.he (.glo x) ∈ fa) : R.mg x = some (.ref (ga R.K x)) := He.glo_ok F.says.kin F.ns (F.ok m)
theorem Fx.free {x : Str} (m : FaP.he (.free x) ∈ fa) : R.mg x = none := He.free_ok F.says.kin F.ns (F.ok m)
theorem Fx.int {x : Str} {i : Int} (m : FaP.he (.int x i) ∈ fa) : ∃ t, R.mg x = some (.int i t) := He.int_ok F.says.kin F.ns (F.ok m)
/-- a def -/
theorem Fx.fnA {k : Nat} {N ps : List Str} {Γ : CloT → Env'} {t : List S} {F0 : CloT → List D → G → Res} {d : FnQ} (hi : d ∈ fn) (hc : d.clo = []) (Sc : FnScope N ps d.scope)
    (hb : ∀ (kV doc pm : Value) (an : Option Addr) (cdv ct : Value) (us : List Value), us.length = ps.length → bindArgs (PySem.W.fnOf d.name d.qual d.params d.body d.scope .none kV doc pm an cdv ct) ⟨us, []⟩ = pure (ps.zip us))
    (hkw : ∀ (kV doc pm : Value) (an : Option Addr) (cdv ct : Value), ∀ p ∈ kwT d.qual, KwOk (PySem.W.fnOf d.name d.qual d.params d.body d.scope .none kV doc pm an cdv ct) ps p.1 p.2)
    (hF : ∀ ct ds g, ds.length = ps.length → F0 ct ds g = (exes (Γ ct) t (startL N.length ds) g).fn) (hbody : ∀ ct, SndSs R T ⟨N, d.scope, k, true⟩ (Γ ct) d.body t) (h1 : ∀ ct, (Γ ct).mine = []) (h2 : ∀ ct, (Γ ct).clo = ct) :
    ∃ fd : FuncData, fd.qualname = d.qual ∧ PySem.W.keepIn R.K (.ref (fAd R.K d.at_)) = true ∧ FnA R T (k + 1) (fAd R.K d.at_) fd ps F0 := by
  obtain ⟨oc, od, osl, cl, kV, doc, pm, an, cdv, ct, lk, hcl, hcd, hkp⟩ := (F.says.fns d hi).ex
  rw [hc, List.map_eq_nil_iff] at hcl
  subst hcl
  exact ⟨_, rfl, hkp, FnA.of lk hcd Sc (hb kV doc pm an cdv ct) (by rw [F.kw]; exact hkw kV doc pm an cdv ct) hF hbody h1 h2⟩
theorem Fx.fnS {k : Nat} {x : Str} {N ps : List Str} {Γ : CloT → Env'} {t : List S} {F0 : CloT → List D → G → Res} {d : FnQ} (hi : d ∈ fn) (m : FaP.he (.glo x) ∈ fa) (hx : d.at_ = (x, none) ∧ d.qual = x ∧ d.clo = []) (Sc : FnScope N ps d.scope)
    (hb : ∀ (kV doc pm : Value) (an : Option Addr) (cdv ct : Value) (us : List Value), us.length = ps.length → bindArgs (PySem.W.fnOf d.name d.qual d.params d.body d.scope .none kV doc pm an cdv ct) ⟨us, []⟩ = pure (ps.zip us))
    (hkw : ∀ (kV doc pm : Value) (an : Option Addr) (cdv ct : Value), ∀ p ∈ kwT d.qual, KwOk (PySem.W.fnOf d.name d.qual d.params d.body d.scope .none kV doc pm an cdv ct) ps p.1 p.2)
    (hF : ∀ ct ds g, ds.length = ps.length → F0 ct ds g = (exes (Γ ct) t (startL N.length ds) g).fn) (hbody : ∀ ct, SndSs R T ⟨N, d.scope, k, true⟩ (Γ ct) d.body t) (h1 : ∀ ct, (Γ ct).mine = []) (h2 : ∀ ct, (Γ ct).clo = ct) :
    FnS R T (k + 1) x ps F0 := by
  obtain ⟨hat, hq, hc⟩ := hx
  obtain ⟨fd, e, kp, A⟩ := F.fnA hi hc Sc hb hkw hF hbody h1 h2
  rw [hat] at kp A
  exact ⟨_, fd, F.glo m, kp, e.trans hq, A⟩
/-- a class with an __init__ -/
theorem Fx.mkS {k : Nat} {x : Str} {s0 : Str} {N ps : List Str} {Γ : CloT → Env'} {t : List S} {F0 : CloT → List D → G → Res} {d : FnQ} (hi : d ∈ fn) (m : FaP.he (.glo x) ∈ fa) (mm : FaP.he (.mkr x) ∈ fa) (hx : d.at_ = (x, some ("__init__" : Str)) ∧ d.qual = x ++ ".__init__" ∧ d.clo = []) (Sc : FnScope N (s0 :: ps) d.scope)
    (hb : ∀ (kV doc pm : Value) (an : Option Addr) (cdv ct : Value) (us : List Value), us.length = (s0 :: ps).length → bindArgs (PySem.W.fnOf d.name d.qual d.params d.body d.scope .none kV doc pm an cdv ct) ⟨us, []⟩ = pure ((s0 :: ps).zip us))
    (hkw : ∀ (kV doc pm : Value) (an : Option Addr) (cdv ct : Value), ∀ p ∈ kwT d.qual, KwOk (PySem.W.fnOf d.name d.qual d.params d.body d.scope .none kV doc pm an cdv ct) (s0 :: ps) p.1 p.2)
    (hF : ∀ ct ds g, ds.length = (s0 :: ps).length → F0 ct ds g = (exes (Γ ct) t (startL N.length ds) g).fn) (hbody : ∀ ct, SndSs R T ⟨N, d.scope, k, true⟩ (Γ ct) d.body t) (h1 : ∀ ct, (Γ ct).mine = []) (h2 : ∀ ct, (Γ ct).clo = ct) :
    MkS R T (k + 1) x x ps F0 := by
  obtain ⟨hat, hq, hc⟩ := hx
  obtain ⟨fd, e, kp, A⟩ := F.fnA hi hc Sc hb hkw hF hbody h1 h2
  rw [hat] at A
  exact ⟨_, _, fd, s0, F.glo m, F.glo m, He.mkr_ok (F.ok mm), e.trans hq, A⟩
/-- a class with an own == -/
theorem Fx.eqC {k : Nat} {x : Str} {p0 p1 : Str} {N : List Str} {Γ : CloT → Env'} {t : List S} {F0 : CloT → List D → G → Res} {d : FnQ} (hi : d ∈ fn) (m : FaP.he (.glo x) ∈ fa) (mm : FaP.eqc x ∈ fa) (hx : d.at_ = (x, some ("__eq__" : Str)) ∧ d.clo = []) (Sc : FnScope N [p0, p1] d.scope)
    (hb : ∀ (kV doc pm : Value) (an : Option Addr) (cdv ct : Value) (us : List Value), us.length = [p0, p1].length → bindArgs (PySem.W.fnOf d.name d.qual d.params d.body d.scope .none kV doc pm an cdv ct) ⟨us, []⟩ = pure ([p0, p1].zip us))
    (hkw : ∀ (kV doc pm : Value) (an : Option Addr) (cdv ct : Value), ∀ p ∈ kwT d.qual, KwOk (PySem.W.fnOf d.name d.qual d.params d.body d.scope .none kV doc pm an cdv ct) [p0, p1] p.1 p.2)
    (hF : ∀ ct ds g, ds.length = [p0, p1].length → F0 ct ds g = (exes (Γ ct) t (startL N.length ds) g).fn) (hbody : ∀ ct, SndSs R T ⟨N, d.scope, k, true⟩ (Γ ct) d.body t) (h1 : ∀ ct, (Γ ct).mine = []) (h2 : ∀ ct, (Γ ct).clo = ct) :
    EqC R T (k + 1) x F0 := by
  obtain ⟨hat, hc⟩ := hx
  obtain ⟨fd, e, kp, A⟩ := F.fnA hi hc Sc hb hkw hF hbody h1 h2
  rw [hat] at A
  obtain ⟨e1, z⟩ := ba (F.ok mm)
  obtain ⟨e2, e3⟩ := ba z
  exact ⟨_, _, fd, p0, p1, F.glo m, eqO_ok e1, e2, A, eqcB_ok e3⟩
theorem Fx.exc0 {c : Str} (m : FaP.he (.glo c) ∈ fa) (mm : FaP.he (.exc c) ∈ fa) : Exc0 R c := ⟨⟨_, F.glo m, He.exc_ok (F.ok mm)⟩⟩
/-- an own error with one field -/
theorem Fx.exc1 {c f : Str} {d : FnQ} (hi : d ∈ fn) (m : FaP.he (.glo c) ∈ fa) (ms : FaP.he (.free "super") ∈ fa) (mm : FaP.sup c f ∈ fa) (hx : d.at_ = (c, some ("__init__" : Str)) ∧ d.clo = [("__class__" : Str)])
    (hd : ∃ (mt : Str) (j : Nat) (p1 p2 u0 u1 u2 u3 u4 u5 u6 u7 u8 u9 : Pos), d.name = "__init__" ∧ d.params = supA f p1 p2 ∧ d.body = supB f mt j u0 u1 u2 u3 u4 u5 u6 u7 u8 u9 ∧ d.scope = supS f ∧ (u2.endLine == u4.line) = true)
    (hb : ∀ (cc : Addr) (kV doc pm : Value) (an : Option Addr) (cdv ct : Value) (x v : Value), bindArgs (PySem.W.fnX d.name d.qual d.params d.body d.scope [("__class__", cc)] .none kV doc pm an cdv ct) ⟨[x, v], []⟩ = pure ([("self", x), (f, v)] : List (Str × Value)))
    (n1 : (("self" : Str) == f) = false := by decide +kernel) (n2 : (f == ("__debug__" : Str)) = false := by decide +kernel) (n3 : (supS f).names.lookup f = some .local := by decide +kernel) (n4 : (supS f).names.lookup ("__class__" : Str) = some .free := by decide +kernel) (n5 : (supS f).names.lookup ("super" : Str) = some .globalImplicit := by decide +kernel) : Exc1 R c f := by
  obtain ⟨hat, hc⟩ := hx
  obtain ⟨mt, j, p1, p2, u0, u1, u2, u3, u4, u5, u6, u7, u8, u9, hd0, hd1, hd2, hd3, hd4⟩ := hd
  obtain ⟨oc, od, osl, cl, kV, doc, pm, an, cdv, ct, lk, hcl, hcd, hkp⟩ := (F.says.fns d hi).ex
  obtain ⟨y1, z⟩ := ba (F.ok mm)
  obtain ⟨y2, z⟩ := ba z
  obtain ⟨y3, z⟩ := ba z
  obtain ⟨y4, z⟩ := ba z
  obtain ⟨y5, z⟩ := ba z
  obtain ⟨y6, z⟩ := ba z
  obtain ⟨y7, z⟩ := ba z
  obtain ⟨y8, z⟩ := ba z
  obtain ⟨y9, z⟩ := ba z
  obtain ⟨y10, z⟩ := ba z
  obtain ⟨y11, z⟩ := ba z
  obtain ⟨y12, y13⟩ := ba z
  rw [hat] at lk hkp
  have lk' : R.K.lookup (ma R.K (ga R.K c) "__init__") = some ⟨oc, od, .func (PySem.W.fnX d.name d.qual d.params d.body d.scope cl .none kV doc pm an cdv ct), osl⟩ := lk
  unfold supFn at y13
  rw [lk'] at y13
  dsimp only at y13
  split at y13
  case h_2 => cases y13
  rename_i x cc cda z4
  simp only [Bool.and_eq_true, decide_eq_true_eq] at y13
  obtain ⟨⟨⟨yx, ycode⟩, yf⟩, ycell⟩ := y13
  subst yx
  split at yf
  case h_2 => cases yf
  rename_i ccl cdd vs ccs hv
  split at yf
  case h_2 => cases yf
  rename_i fl tf hfl
  have yf2 : file = fl := of_decide_eq_true yf
  split at ycell
  case h_2 => cases ycell
  rename_i cl2 cld C' csl hc2
  have yc2 : C' = ga R.K c := of_decide_eq_true ycell
  subst yc2
  subst yf2
  refine ⟨⟨ga R.K c, ma R.K (ga R.K c) "__init__", d.qual, F.glo m, ?_⟩⟩
  refine ⟨veOf_ok y12, eqO_ok y1, eqO_ok y2, eqO_ok y3, of_decide_eq_true y4, y5, oB_ok y6, oB_ok y7, of_decide_eq_true y8, eqO_ok y9, oB_ok y10, eqO_ok y11, F.free ms, F.topE, n1, n2, n3, n4, n5, ?_⟩
  have hb2 := hb cc .none doc pm an (.ref cda) ct
  rw [hd0, hd1, hd2, hd3] at lk' hb2
  exact ⟨oc, od, doc, pm, an, cda, cc, ct, osl, mt, j, p1, p2, u0, u1, u2, u3, u4, u5, u6, u7, u8, u9, ccl, cl2, cdd, cld, ccs, csl, vs, file, tf, lk', ycode, hv, hfl, F.fileE, hd4, hc2, hb2⟩
theorem Fx.errs {x : Str} {errs : List Str} (m : FaP.he (.glo x) ∈ fa) (mm : ∀ c ∈ errs, FaP.he (.glo c) ∈ fa ∧ FaP.he (.exm c x true) ∈ fa) : ErrsOk R x errs := ⟨_, F.glo m, fun c' C' hc hm => by
  obtain ⟨m1, m2⟩ := mm c' (by simpa using hc)
  rw [F.glo m1] at hm
  cases hm
  exact He.exm_ok (F.ok m2)⟩
end
/-- the fields that may be stored to -/
theorem Fx.fields {R : RC} {T : Tab} {file : Str} {lam : List Str} {fa : List FaP} {fn : List FnQ} {lamF : Nat → Option LamT} {kc : Nat} {kwT : Str → List (Nat × List Str)} {tt : List (Addr × Addr)} {h : Heap} (F : Fx R T file lam fa fn lamF kc kwT tt h) {FL : List (Str × Str)} (m : ∀ p ∈ FL, FaP.he (.glo p.1) ∈ fa ∧ FaP.he (.cls p.1) ∈ fa ∧ FaP.he (.noat p.1 p.2) ∈ fa) (f : Str) :
    ∀ c C, FL.contains (c, f) = true → R.mg c = some (.ref C) → Cls R.K C ∧ NoAttr R.K C f := fun c C hc hm => by
  obtain ⟨m1, m2, m3⟩ := m (c, f) (by simpa using hc)
  rw [F.glo m1] at hm
  cases hm
  exact ⟨He.cls_ok (F.ok m2), He.noat_ok (F.ok m3)⟩
theorem xget_of {R : RC} {C : Addr} {f : Str} (E : ExcC R.K C) (hno : PySem.W.findIn R.K (.ref C) f = some none) : XGet R C f := by
  intro X hK hP hw pins σ H s a dx o u ks v b Q E' I ha hc hd hx hk hl q
  obtain ⟨ho, _⟩ := (show ObjOk X.prog X.w H s.heap a (.frz o u) from I.hok a _ ha)
  obtain ⟨mA, hns, hr⟩ := (show ObjOk X.prog X.w H s.heap dx (.xd ks) from I.hok dx _ hk)
  obtain ⟨od, hod, hlk⟩ := lookIn_ns hns
  obtain ⟨w, hw2, rw2⟩ := RelO.some_of (v := v) (o := mA f) (by rw [← hl]; exact hr f)
  obtain ⟨xs, hx⟩ := hx
  have J : PySem.W.InstAt s.heap a o C (some od) := ⟨ho, hc, by unfold PySem.W.notCls; rw [hx] <;> rfl, by rw [hd]; exact hod⟩
  have kin : R.K.In s.heap := by rw [← hK]; exact I.kIn
  exact HandSPX.exc_get kin J E.hg E.hk E.hs (PySem.W.findObj_own E.hd hno rfl (by rw [hlk, hw2])) (handed_of rw2) (q w _ (I.tok _) rw2)
theorem Fx.xfields {R : RC} {T : Tab} {file : Str} {lam : List Str} {fa : List FaP} {fn : List FnQ} {lamF : Nat → Option LamT} {kc : Nat} {kwT : Str → List (Nat × List Str)} {tt : List (Addr × Addr)} {h : Heap} (F : Fx R T file lam fa fn lamF kc kwT tt h) {FL : List (Str × Str)} (m : ∀ p ∈ FL, FaP.he (.glo p.1) ∈ fa ∧ FaP.errc p.1 ∈ fa ∧ FaP.xget p.1 p.2 ∈ fa) (f : Str) :
    ∀ c C, FL.contains (c, f) = true → R.mg c = some (.ref C) → XGet R C f := fun c C hc hm => by
  obtain ⟨m1, m2, m3⟩ := m (c, f) (by simpa using hc)
  rw [F.glo m1] at hm
  cases hm
  exact xget_of (errc_ok (F.ok m2)) (eqO_ok (F.ok m3))
/-- a table of classes -/
def lk2 (l : List ((Str × Str) × Bool)) (a b : Str) : Option Bool := l.lookup (a, b)
theorem lk2_mem {l : List ((Str × Str) × Bool)} {a b : Str} {c : Bool} (h : lk2 l a b = some c) : ((a, b), c) ∈ l := by
  induction l with
  | nil => cases h
  | cons p l ih =>
    unfold lk2 at h
    rw [List.lookup_cons] at h
    cases e : ((a, b) == p.1) with
    | true =>
      rw [e] at h
      cases h
      have : (a, b) = p.1 := by simpa using e
      rw [this]
      exact List.mem_cons_self
    | false => rw [e] at h; exact List.mem_cons_of_mem _ (ih h)
theorem filterMap_all {α β : Type} {f : α → Option β} : ∀ {l : List α}, (l.filterMap f).length = l.length → ∀ (i : Nat) (x : α), l[i]? = some x → ∃ y, f x = some y ∧ (l.filterMap f)[i]? = some y
  | [], _, i, x, h => by simp at h
  | a :: l, e, i, x, h => by
    have le := List.length_filterMap_le f l
    cases q : f a with
    | none =>
      rw [List.filterMap_cons_none q] at e
      rw [List.length_cons] at e
      omega
    | some b =>
      rw [List.filterMap_cons_some q] at e ⊢
      simp only [List.length_cons, Nat.add_right_cancel_iff] at e
      cases i with
      | zero =>
        simp only [List.getElem?_cons_zero, Option.some.injEq] at h ⊢
        subst h
        exact ⟨b, q, rfl⟩
      | succ i =>
        simp only [List.getElem?_cons_succ] at h ⊢
        exact filterMap_all e i x h
/-- a def with lambdas: its table -/
theorem Fx.table {R : RC} {T : Tab} {file : Str} {lam : List Str} {fa : List FaP} {fn : List FnQ} {lamF : Nat → Option LamT} {kc : Nat} {kwT : Str → List (Nat × List Str)} {tt : List (Addr × Addr)} {h : Heap} (F : Fx R T file lam fa fn lamF kc kwT tt h) (i : Nat) {x : Str} (hx : lam[i]? = some x) : ∃ c P : Addr, tabP R.K x = some (c, P) ∧ LamX.TabB R.base R.mg c P ∧ (P, (x ++ (".<locals>." : Str)) ++ ("<lambda>" : Str)) ∈ T ∧ ∀ p ∈ T, p.1 = P → p.2 = (x ++ (".<locals>." : Str)) ++ ("<lambda>" : Str) := by
  have e0 : (lam.filterMap fun x => tabP R.K x) = tt := F.says.tabs
  obtain ⟨⟨c, P⟩, hy, hi⟩ := filterMap_all (f := fun x => tabP R.K x) (by rw [e0]; exact F.says.len) i x hx
  rw [e0] at hi
  have hm : (c, P) ∈ tt := List.mem_of_getElem? hi
  refine ⟨c, P, hy, F.tb _ hm, ?_, fun p hp e => ?_⟩
  · rw [F.tT]
    refine List.mem_map.mpr ⟨((c, P), x), List.mem_of_getElem? (i := i) ?_, rfl⟩
    rw [List.getElem?_zip_eq_some]
    exact ⟨hi, hx⟩
  · rw [F.tT] at hp
    obtain ⟨⟨⟨c2, P2⟩, x2⟩, hq, rfl⟩ := List.mem_map.mp hp
    obtain ⟨j, hj, ej⟩ := List.getElem_of_mem hq
    have ej2 : (tt.zip lam)[j]? = some ((c2, P2), x2) := by rw [List.getElem?_eq_getElem hj, ej]
    obtain ⟨z1, z2⟩ := List.getElem?_zip_eq_some.mp ej2
    have e : P2 = P := e
    subst e
    have nd := F.says.nd
    have hij : i = j := by
      have l1 : i < (tt.map (·.2)).length := by rw [List.length_map]; exact (List.getElem?_eq_some_iff.mp hi).1
      refine (List.getElem?_inj l1 nd).mp ?_
      rw [List.getElem?_map, List.getElem?_map, hi, z1] <;> rfl
    subst hij
    rw [hx] at z2
    cases z2
    rfl
theorem Fx.isc {R : RC} {T : Tab} {file : Str} {lam : List Str} {fa : List FaP} {fn : List FnQ} {lamF : Nat → Option LamT} {kc : Nat} {kwT : Str → List (Nat × List Str)} {tt : List (Addr × Addr)} {h : Heap} (F : Fx R T file lam fa fn lamF kc kwT tt h) {Γ : Env'} {c : Str} {BL XL : List ((Str × Str) × Bool)} (h1 : Γ.below = lk2 BL) (h2 : Γ.belowX = lk2 XL)
    (m1 : ∀ p ∈ BL, FaP.he (.glo p.1.1) ∈ fa ∧ FaP.insc p.1.1 ∈ fa ∧ FaP.kit p.1.1 p.1.2 p.2 ∈ fa) (m2 : ∀ p ∈ XL, FaP.he (.glo p.1.1) ∈ fa ∧ FaP.errc p.1.1 ∈ fa ∧ FaP.kit p.1.1 p.1.2 p.2 ∈ fa) (m3 : FaP.kitT c ∈ fa) : IscK R Γ c (ga R.K c) := by
  refine ⟨fun c' b C' hb hm => ?_, fun c' b C' hb hm => ?_, kitT_ok (F.ok m3)⟩
  · rw [h1] at hb
    obtain ⟨y1, y2, y3⟩ := m1 _ (lk2_mem hb)
    rw [F.glo y1] at hm
    cases hm
    exact ⟨insc_ok (F.ok y2), kit_ok (F.ok y3)⟩
  · rw [h2] at hb
    obtain ⟨y1, y2, y3⟩ := m2 _ (lk2_mem hb)
    rw [F.glo y1] at hm
    cases hm
    exact ⟨errc_ok (F.ok y2), kit_ok (F.ok y3)⟩
open Classical in
/-- a def with lambdas: what it does whatever the cells are -/
noncomputable def runL (f : Def) (Γ : CloT → (Nat → List Nat) → Env') (ct : CloT) (ds : List D) (g : G) : Res :=
  if ∀ κ, f.run (Γ ct κ) ds g = f.run (Γ ct fun _ => []) ds g then f.run (Γ ct fun _ => []) ds g else .bad
theorem runL_eq {f : Def} {Γ : CloT → (Nat → List Nat) → Env'} {ct : CloT} {ds : List D} {g : G} {r : Res} (h : ∀ κ, f.run (Γ ct κ) ds g = r) : runL f Γ ct ds g = r := by
  unfold runL
  rw [if_pos (fun κ => by rw [h, h]), h]
theorem runL_at {f : Def} {Γ : CloT → (Nat → List Nat) → Env'} {ct : CloT} {ds : List D} {g : G} (h : runL f Γ ct ds g ≠ .bad) (κ : Nat → List Nat) : runL f Γ ct ds g = f.run (Γ ct κ) ds g := by
  unfold runL at h ⊢
  split at h
  · rename_i q
    rw [if_pos q, q κ]
  · exact absurd rfl h
theorem Fx.fnL {R : RC} {T : Tab} {file : Str} {lam : List Str} {fa : List FaP} {fn : List FnQ} {lamF : Nat → Option LamT} {kc : Nat} {kwT : Str → List (Nat × List Str)} {tt : List (Addr × Addr)} {h : Heap} (F : Fx R T file lam fa fn lamF kc kwT tt h) {k kb : Nat} {x : Str} {N ps : List Str} {Γ : CloT → (Nat → List Nat) → Env'} {f : Def} {d : FnQ} (hi : d ∈ fn) (m : FaP.he (.glo x) ∈ fa) (hx : d.at_ = (x, none) ∧ d.qual = x ∧ d.clo = []) (Sc : FnScope N ps d.scope)
    (hb : ∀ (kV doc pm : Value) (an : Option Addr) (cdv ct : Value) (us : List Value), us.length = ps.length → bindArgs (PySem.W.fnOf d.name d.qual d.params d.body d.scope .none kV doc pm an cdv ct) ⟨us, []⟩ = pure (ps.zip us))
    (hkw : ∀ (kV doc pm : Value) (an : Option Addr) (cdv ct : Value), ∀ p ∈ kwT d.qual, KwOk (PySem.W.fnOf d.name d.qual d.params d.body d.scope .none kV doc pm an cdv ct) ps p.1 p.2)
    (i : Nat) (hlam : lam[i]? = some x) (hf : f.ps = ps.length ∧ f.n = N.length) (hbody : ∀ ct κ, SndSs R T ⟨N, d.scope, k, true⟩ (Γ ct κ) d.body f.body)
    (hcaps : ∀ ct κ, (Γ ct κ).caps = κ) (hqual : ∀ ct κ, (Γ ct κ).qual = x ++ (".<locals>." : Str)) (hclo0 : ∀ ct κ, (Γ ct κ).clo = ct) (hl : ∀ ct κ id, (Γ ct κ).mine.contains id = true → LamOk R T N d.scope kb (Γ ct κ) id) (hk : kb + 1 ≤ kc) :
    FnS R T (k + 1) x ps (runL f Γ) := by
  obtain ⟨hat, hq, hc⟩ := hx
  obtain ⟨oc, od, osl, cl, kV, doc, pm, an, cdv, ct, lk, hcl, hcd, hkp⟩ := (F.says.fns d hi).ex
  rw [hc, List.map_eq_nil_iff] at hcl
  subst hcl
  obtain ⟨c, P, ht, tb, mT, uT⟩ := F.table i hlam
  have lk2 := lk
  rw [hat] at lk2 hkp
  have lk3 : R.K.lookup (ga R.K x) = some ⟨oc, od, .func (PySem.W.fnX d.name d.qual d.params d.body d.scope [] .none kV doc pm an cdv ct), osl⟩ := lk2
  have hcv : cdv = .ref c := by
    unfold tabP at ht
    rw [lk3] at ht
    dsimp only at ht
    split at ht
    case h_2 => cases ht
    rename_i c0
    split at ht
    case h_2 => cases ht
    split at ht
    case h_2 => cases ht
    cases ht
    rfl
  refine ⟨_, PySem.W.fnOf d.name d.qual d.params d.body d.scope .none kV doc pm an cdv ct, F.glo m, hkp, hq, ?_⟩
  refine FnA.ofL (Γ := Γ) (t := f.body) lk3 hcd Sc (hb kV doc pm an cdv ct) (by rw [F.kw]; exact hkw kV doc pm an cdv ct) (fun ct ds g hds hne κ => ?_) hbody (fun ct κ _ => ⟨hcaps ct κ, by rw [hqual, hq], c, P, hcv, tb, by rw [hqual]; exact mT, by rw [hqual]; exact uT⟩) ?_
  · rw [runL_at hne κ]
    unfold Def.run
    rw [if_pos (by rw [hf.1]; exact hds), hf.2]
  · intro ct' X pins s σ H ρ loc g gx hN henv hex hst hfr hro co I S
    obtain ⟨L, fa', he⟩ := henv
    exact CloOk.own gx hN (by rw [he] <;> rfl) (by rw [he, hqual, ← hq] <;> rfl) (hcaps _ _) (by rw [hclo0]; exact co) (fun id hid => hl _ _ id hid) (by rw [F.kc]; exact hk) I S
end PyD
end
section
set_option Elab.async false
set_option linter.all false
set_option maxRecDepth 100000
set_option maxHeartbeats 2000000
namespace PyD
open PySem PySem.Spec PyProof.Rows L2 He
section
variable {R : RC} {T : Tab} {cc : CC} {Γ : Env'}
theorem SndE.gintE {x : Str} {i : Int} {pos : Pos} (hg : globB cc x = true) (hm : ∃ t, R.mg x = some (.int i t)) : SndE R T cc Γ (.Name x pos) (.g x (.int i)) := by
  obtain ⟨t, hm⟩ := hm
  exact SndE.gint hg hm
theorem SndT.ofCmp {a b : Expr} {op : CmpOp} {pos : Pos} {t : E} (h : SndE R T cc Γ (.Compare a [op] [b] pos) t) : SndT R T cc Γ (.Compare a [op] [b] pos) t := fun X W cx tk => PT.imp (test_of_value (h X W cx tk)) fun σ H Q h => h
theorem eqs0 {α : Type} [BEq α] [LawfulBEq α] {P : α → Prop} : ∀ c, ([] : List α).contains c = true → P c := fun c h => by simp at h
theorem eqsC {α : Type} [BEq α] [LawfulBEq α] {c0 : α} {l : List α} {P : α → Prop} (h : P c0) (hr : ∀ c, l.contains c = true → P c) : ∀ c, (c0 :: l).contains c = true → P c := fun c hc => by
  simp only [List.contains_cons, Bool.or_eq_true, beq_iff_eq] at hc
  rcases hc with rfl | hc
  · exact h
  · exact hr c hc
theorem kwN {α : Type} {l : List α} {P : α → Prop} (e : l = []) : ∀ p ∈ l, P p := fun p hp => by subst e; cases hp
theorem kwC {α : Type} {l r : List α} {a : α} {P : α → Prop} (e : l = a :: r) (h : P a) (hr : ∀ p ∈ r, P p) : ∀ p ∈ l, P p := fun p hp => by
  subst e
  rcases List.mem_cons.mp hp with rfl | hp
  · exact h
  · exact hr p hp
def bindBk (kwT : Str → List (Nat × List Str)) (x : Str) (ps : List Str) (n : Nat) (ks : List Str) : Bool := (ks.isEmpty && decide (n = ps.length)) || (kwT x).contains (n, ks)
variable {file : Str} {lam : List Str} {fa : List FaP} {fn : List FnQ} {lamF : Nat → Option LamT} {kc : Nat} {kwT : Str → List (Nat × List Str)} {tt : List (Addr × Addr)} {h : Heap}
theorem SndE.callF (F : Fx R T file lam fa fn lamF kc kwT tt h) {k : Nat} {x : Str} {ps : List Str} {F0 : CloT → List D → G → Res} {es : List Expr} {kws : List Keyword} {ts : List E} {n : Nat} {ks : List Str} {perm : List Nat} {p pos : Pos} (fs : FnS R T k x ps F0) (hF : Γ.fn x = F0) (hk : k ≤ cc.k) (hg : globB cc x = true)
    (ha : SndK R T cc Γ es kws ts n ks) (hb : bindBk kwT x ps n ks = true) (hp : perm = permK ps ts.length ks) (hn : n + ks.length = ts.length) (hlen : (permL perm ts).length = ps.length) :
    SndE R T cc Γ (.Call (.Name x p) es kws pos) (.call x ts perm) := SndE.callK fs hF hk hg ha hp hn (by rw [← F.kw] at hb; exact hb) hlen
theorem SndE.cvF (F : Fx R T file lam fa fn lamF kc kwT tt h) {x : Str} {i : Nat} {es : List Expr} {kws : List Keyword} {ts : List E} {n : Nat} {ks : List Str} {p pos : Pos} (hs : slotB cc i x = true) (ha : SndK R T cc Γ es kws ts n ks) (hn : n + ks.length = ts.length) (hkc : kc ≤ cc.k)
    (hv : ∀ y, Γ.vals.contains y = true → ∃ (k : Nat) (F : CloT → List D → G → Res), FnS R T k y (Γ.par y) F ∧ Γ.fn y = F ∧ k ≤ cc.k)
    (hw : (Γ.vals.all fun y => !decide ((Γ.par y).length = ts.length) || !kwB (Γ.par y) ts.length ks || (bindBk kwT y (Γ.par y) n ks && decide ((permL (permK (Γ.par y) ts.length ks) ts).length = (Γ.par y).length))) = true) :
    SndE R T cc Γ (.Call (.Name x p) es kws pos) (.cv (.v i) ts ks) := SndE.cv hs ha hn (by rw [F.kc]; exact hkc) hv (by rw [← F.kw] at hw; exact hw)
theorem SndE.lamX (F : Fx R T file lam fa fn lamF kc kwT tt h) {id : Nat} {caps : List Nat} {params : Arguments} {body : Expr} {scope : Scope} {pos : Pos} {L : LamT} (hid : Γ.mine.contains id = true) (hL : lamF id = some L) (hL2 : L = ⟨params, body, scope, Γ.qual ++ "<lambda>"⟩) (hs : LamX.lamSB cc.sc scope = true) (hdef : ∀ env, defaultsOf params env = ([], []) := by intro _; rfl) :
    SndE R T cc Γ (.Lambda params body scope pos) (.lam id caps) := SndE.lam hid (by rw [F.lam]; exact hL) hL2 hs hdef
end
theorem SndS.lc {R : RC} {T : Tab} {cc : CC} {Γ : Env'} {y : Str} {i : Nat} {elt tg iter : Expr} {ifs : List Expr} {scope : Scope} {own : List (Str × Nat)} {py pos spos : Pos} {e : E} {t : PyD.T} {it : PyD.It} {cond : List E} {vs : List Nat} (hy : locB cc i y = true) (hk : cc.sc.kind = .function) (hl : (py.line == pos.line) = true) (ha : (scope.names.any fun p => p.1 == y && (p.2 == .local || p.2 == .cell)) = false)
    (hi : SndI R T cc Γ false tg iter it) (hb : SndB R T (cc.blk scope) Γ.nc tg t) (hc : SndC R T (cc.blk scope) Γ.nc ifs cond)
    (he : SndE R T (cc.blk scope) Γ.nc elt e) (ok : blkC cc.N cc.sc scope own = true) (hv : own.map (·.2) = vs) (hsl : (slotsT t).all (fun i => vs.contains i) = true) (hs : ∀ env x, foldedSetIterable iter env x = pure x := by intro _ _; rfl) :
    SndS R T cc Γ (.Assign [.Name y py] (.ListComp elt [⟨tg, iter, ifs, 0⟩] scope pos) spos) (.own i (.comp e t it cond vs)) := fun X W ρ0 H0 c tp ns tk hp => by
  subst hv
  obtain ⟨n1, l1⟩ := locB_ok c hy
  have okB : BlkOk X.N X.env.scope scope own := by rw [c.N, c.sc]; exact blkOk_by ok
  refine PS.imp (ps_setLc c.gx.calm c.gx.nd n1 l1 (sw_true (by rw [c.sc]; exact hk) l1 hl ha) (hi X W c tk) okB (fun s H C cl fp => hb _ (c.blk s H C cl fp)) (fun s H C cl fp => hc _ (c.blk s H C cl fp)) (fun s H C cl fp => pe_frz (he _ (fun _ _ _ _ => False) (c.blk s H C cl fp) noTakes)) (hs X.env)) fun D σ H h => ?_
  have h' := st_bind (f := den Γ (.comp e t it cond (own.map (·.2)))) (k := fun loc own d g1 => .nx (loc.set i (some (own, d))) g1) (by obtain ⟨ρ, loc, g, S, st, fr, q⟩ := h; simp only [exe] at q; exact ⟨ρ, loc, g, S, st, fr, q⟩) ns
  exact comp_tlc hsl (rd_mono h' fun v H1 ⟨ρ1, loc1, own, d, g1, S1, st1, fr1, r1, f1, a⟩ => a.own_ok S1 st1 fr1 r1 f1)
theorem bo_len : bootBuiltins "len" = some (.builtin "len") := by kernel_rfl
theorem bo_abs : bootBuiltins "abs" = some (.builtin "abs") := by kernel_rfl
theorem bo_min : bootBuiltins "min" = some (.builtin "min") := by kernel_rfl
theorem bo_max : bootBuiltins "max" = some (.builtin "max") := by kernel_rfl
theorem bo_sum : bootBuiltins "sum" = some (.builtin "sum") := by kernel_rfl
theorem bo_all : bootBuiltins "all" = some (.builtin "all") := by kernel_rfl
theorem bo_any : bootBuiltins "any" = some (.builtin "any") := by kernel_rfl
theorem bo_sorted : bootBuiltins "sorted" = some (.builtin "sorted") := by kernel_rfl
theorem bo_repr : bootBuiltins "repr" = some (.builtin "repr") := by kernel_rfl
theorem bo_isinstance : bootBuiltins "isinstance" = some (.builtin "isinstance") := by kernel_rfl
theorem bo_int : bootBuiltins "int" = some (.type "int") := by kernel_rfl
theorem bo_bool : bootBuiltins "bool" = some (.type "bool") := by kernel_rfl
theorem bo_tuple : bootBuiltins "tuple" = some (.type "tuple") := by kernel_rfl
theorem bo_list : bootBuiltins "list" = some (.type "list") := by kernel_rfl
theorem bo_str : bootBuiltins "str" = some (.type "str") := by kernel_rfl
theorem bo_dict : bootBuiltins "dict" = some (.type "dict") := by kernel_rfl
def sAt (l : List Stmt) (i : Nat) : Stmt := l.getD i (.Pass ⟨0, 0, 0, 0⟩)
def eAt (l : List Expr) (i : Nat) : Expr := l.getD i (.Constant .none 0 ⟨0, 0, 0, 0⟩)
def sBody : Stmt → List Stmt
  | .FunctionDef _ _ b _ _ _ _ _ _ _ => b
  | .For _ _ b _ _ => b
  | .While _ b _ _ => b
  | .If _ b _ _ => b
  | _ => []
def sElse : Stmt → List Stmt
  | .If _ _ b _ => b
  | _ => []
def sVal : Stmt → Expr
  | .Assign _ e _ => e
  | .Expr e _ => e
  | .Return (some e) _ => e
  | .If t _ _ _ => t
  | .While t _ _ _ => t
  | .For _ i _ _ _ => i
  | _ => .Constant .none 0 ⟨0, 0, 0, 0⟩
def eArg (i : Nat) : Expr → Expr
  | .Call _ as _ _ => eAt as i
  | .Tuple as _ _ => eAt as i
  | .List as _ => eAt as i
  | .BoolOp _ as _ => eAt as i
  | .Compare a _ as _ => eAt (a :: as) i
  | .BinOp a _ b _ => eAt [a, b] i
  | .UnaryOp _ a _ => a
  | .IfExp t a b _ => eAt [t, a, b] i
  | e => e
def eKw (i : Nat) : Expr → Expr
  | .Call _ _ ks _ => eAt (ks.map fun k => k.value) i
  | e => e
def lamOf (q : Str) : Expr → LamT
  | .Lambda ps b sc _ => ⟨ps, b, sc, q⟩
  | e => ⟨⟨[], [], none, [], [], none, []⟩, e, ⟨.function, [], false, false, []⟩, q⟩
end PyD
end
section
set_option Elab.async false
set_option linter.all false
set_option maxRecDepth 100000
set_option maxHeartbeats 2000000
namespace PyD
open PySem PySem.Spec PyProof.Rows L2 He LamX
def noClo : CloT := fun _ _ _ _ => .bad
theorem law_of {P : Program} {w : World} {K : PySem.W.Frag} {mg : Str → Option Value} {fa0 : Addr} {tt : List (Addr × Addr)} {h0 : Heap} {ns : List Int}
    {file : Str} {lam : List Str} {fa : List FaP} {fn : List FnQ} {lamF : Nat → Option LamT} {kc : Nat} {kwT : Str → List (Nat × List Str)} {k : Nat} {x : Str} {F0 : CloT → List D → G → Res}
    (Sy : SaysP file lam fa fn K tt h0) (hns0 : h0.Ns mainGlobals mg) (hfile : ((P.main.file : Str) == file) = true) (htop : (P.main.scope.names.lookup ("super" : Str)).isSome = false) (hx : mg x = some (.ref fa0))
    (ok : ∀ (R : RC) (T : Tab), R.P = P → Fx R T file lam fa fn lamF kc kwT tt h0 → FnS R T k x ["script"] F0) (hroom : Room k callerA)
    (spec : ∃ own g, F0 noClo [.scr ns] ⟨[]⟩ = .ok own (.bl true) g) : LawRun P w K mg fa0 tt ns := by
  intro base hK hG hT s H a e0 hTab hS
  let R : RC := ⟨P, w, K, mg, base, lamF, kc, kwT⟩
  have fx : Fx R ((tt.zip lam).map fun p => (p.1.2, (p.2 ++ (".<locals>." : Str)) ++ ("<lambda>" : Str))) file lam fa fn lamF kc kwT tt h0 := ⟨Sy, hns0, hT, rfl, rfl, rfl, rfl, hfile, htop⟩
  obtain ⟨f, fd, hm, _, _, A⟩ := (ok R _ rfl fx).ex
  have hf : f = fa0 := by
    have z := hm.symm.trans hx
    cases z
    rfl
  subst hf
  have gr : GR R ((tt.zip lam).map fun p => (p.1.2, (p.2 ++ (".<locals>." : Str)) ++ ("<lambda>" : Str))) [] H ⟨[]⟩ := by
    refine ⟨fun i ob h => by simp at h, rfl, List.nodup_nil, fun p hp => ?_⟩
    obtain ⟨q, hq, rfl⟩ := List.mem_map.mp hp
    refine ⟨#[], hTab q.1 (List.of_mem_zip (show (q.1, q.2) ∈ tt.zip lam from hq)).1, trivial, fun pos cv h => ?_⟩
    simp [codeAmong] at h
  obtain ⟨own, g, hs⟩ := spec
  refine A.run callerA [] s H ⟨[.ref a], []⟩ [.ref a] [.ref a] [] ⟨[]⟩ [.scr ns] noClo _ _ hroom rfl e0 (.of_eq (A.bind _ rfl)) (.cons rfl .nil) gr (.cons (.scr hS) .nil) rfl (CloOk.no fun _ _ _ _ => rfl) ?_
  rw [hs]
  intro ρ' v H' st rv _
  cases own with
  | false => have z : Rep R ρ' H' (.bl true) v := rv; cases z; rfl
  | true => have z : RepO R ρ' H' (.bl true) v := rv; cases z
end PyD
end
section
set_option Elab.async false
set_option linter.all false
set_option maxRecDepth 100000
set_option maxHeartbeats 1000000
namespace PyD
open PySem
/-- by a truth value -/
def tcase {α : Type} (x : D) (t f z : α) : α := match x with
  | .bl true => t
  | .bl false => f
  | _ => z
@[simp] theorem tcase_bl {α : Type} (b : Bool) (t f z : α) : tcase (.bl b) t f z = if b = true then t else f := by cases b <;> rfl
theorem tcase_eq {α : Type} (x : D) (t f z : α) : (match truth x with | some true => t | some false => f | none => z) = tcase x t f z := by
  cases x <;> first | rfl | (rename_i b; cases b <;> rfl)
section
variable {Γ : Env'} {loc : Loc} {g g' : G} {own : Bool} {d : D}
@[simp] theorem bind_ok (k : D → G → Res) : (Res.ok own d g).bind k = k d g := rfl
@[simp] theorem bind_ex (c : Str) (fs : List (Str × D)) (k : D → G → Res) : (Res.ex c fs g).bind k = .ex c fs g := rfl
@[simp] theorem bindG_ok (a : Arg) (k : Arg → G → Res) : (ResG.ok a g).bind k = k a g := rfl
@[simp] theorem bindG_ex (c : Str) (fs : List (Str × D)) (k : Arg → G → Res) : (ResG.ex c fs g).bind k = .ex c fs g := rfl
@[simp] theorem bindP_ok (o : Option Int) (k : Option Int → G → Res) : (ResP.ok o g).bind k = k o g := rfl
@[simp] theorem frz_ok : (Res.ok own d g).frz = .ok false d g := rfl
@[simp] theorem frz_ex (c : Str) (fs : List (Str × D)) : (Res.ex c fs g).frz = .ex c fs g := rfl
@[simp] theorem st_ok (k : Bool → D → G → ResS) : (Res.ok own d g).st k = k own d g := rfl
@[simp] theorem st_ex (c : Str) (fs : List (Str × D)) (k : Bool → D → G → ResS) : (Res.ex c fs g).st k = .ex c fs g := rfl
@[simp] theorem stL_ok (ds : List D) (k : List D → G → ResS) : (ResL.ok ds g).st k = k ds g := rfl
@[simp] theorem stL_ex (c : Str) (fs : List (Str × D)) (k : List D → G → ResS) : (ResL.ex c fs g).st k = .ex c fs g := rfl
@[simp] theorem stA_ok {as : List Arg} (k : List D → G → ResS) : (ResA.ok as g).st loc k = match valsOf loc as with | some ds => k ds g | none => .bad := rfl
@[simp] theorem stA_ex (c : Str) (fs : List (Str × D)) (k : List D → G → ResS) : (ResA.ex c fs g).st loc k = .ex c fs g := rfl
@[simp] theorem fn_nx : (ResS.nx loc g).fn = .ok false .non g := rfl
@[simp] theorem fn_rt : (ResS.rt own d g).fn = .ok own d g := rfl
@[simp] theorem fn_ex (c : Str) (fs : List (Str × D)) : (ResS.ex c fs g).fn = .ex c fs g := rfl
@[simp] theorem callA {as : List Arg} (k : List D → G → Res) : (ResA.ok as g).call k = match plainArgs as with | some ds => k ds g | none => .bad := rfl
@[simp] theorem callA_ex (c : Str) (fs : List (Str × D)) (k : List D → G → Res) : (ResA.ex c fs g).call k = .ex c fs g := rfl
@[simp] theorem plainA_nil : plainArgs [] = some [] := rfl
@[simp] theorem plainA_cons (r : List Arg) : plainArgs (.v d :: r) = match plainArgs r with | some ds => some (d :: ds) | none => none := rfl
@[simp] theorem nc_fn : Γ.nc.fn = Γ.fn := rfl
@[simp] theorem nc_mkc : Γ.nc.mkc = Γ.mkc := rfl
@[simp] theorem nc_eqs : Γ.nc.eqs = Γ.eqs := rfl
@[simp] theorem nc_errs : Γ.nc.errs = Γ.errs := rfl
@[simp] theorem nc_fuel : Γ.nc.fuel = Γ.fuel := rfl
@[simp] theorem nc_below : Γ.nc.below = Γ.below := rfl
@[simp] theorem nc_belowX : Γ.nc.belowX = Γ.belowX := rfl
@[simp] theorem nc_field : Γ.nc.field = Γ.field := rfl
@[simp] theorem nc_xfield : Γ.nc.xfield = Γ.xfield := rfl
@[simp] theorem nc_par : Γ.nc.par = Γ.par := rfl
@[simp] theorem nc_vals : Γ.nc.vals = Γ.vals := rfl
@[simp] theorem den_v {i : Nat} : den Γ (.v i) loc g = match loc[i]? with | some (some (false, d)) => .ok false d g | _ => .bad := by (conv => lhs; unfold den) <;> rfl
@[simp] theorem den_o {i : Nat} : den Γ (.o i) loc g = match loc[i]? with | some (some (own, d)) => .ok own d g | _ => .bad := by (conv => lhs; unfold den) <;> rfl
@[simp] theorem den_c : den Γ (.c d) loc g = .ok false d g := by unfold den; rfl
@[simp] theorem den_g {x : Str} : den Γ (.g x d) loc g = .ok false d g := by unfold den; rfl
@[simp] theorem den_bty {n : String} : den Γ (.bty n) loc g = .ok false (.ty n) g := by unfold den; rfl
@[simp] theorem den_edic : den Γ .edic loc g = .ok false (.dic []) g := by unfold den; rfl
@[simp] theorem den_bin {op : Operator} {a b : E} : den Γ (.bin op a b) loc g = (gA a loc g (den Γ a loc g)).bind fun x g1 => (gA b loc g1 (den Γ b loc g1)).bind fun y g2 => opOf loc (sem2 (binD op)) [x, y] g2 := by (conv => lhs; unfold den) <;> rfl
@[simp] theorem den_cmp {op : CmpOp} {a b : E} : den Γ (.cmp op a b) loc g = (gA a loc g (den Γ a loc g)).bind fun x g1 => (gA b loc g1 (den Γ b loc g1)).bind fun y g2 => opOf loc (semB (cmpD op)) [x, y] g2 := by (conv => lhs; unfold den) <;> rfl
theorem chn_tcase {α : Type} (o : Option Bool) (t f z : α) : (match o with | some true => t | some false => f | none => z) = match o with | some b => if b = true then t else f | none => z := by
  cases o with
  | none => rfl
  | some b => cases b <;> rfl
@[simp] theorem den_chn {op op' : CmpOp} {a b c : E} : den Γ (.chn op op' a b c) loc g = (den Γ a loc g).bind fun x g1 => (den Γ b loc g1).bind fun y g2 => match cmpD op x y with
    | some r => if r = true then ((den Γ c loc g2).bind fun z g3 => match cmpD op' y z with | some r => .ok false (.bl r) g3 | none => .bad) else .ok false (.bl false) g2
    | none => .bad := by
  (conv => lhs; unfold den)
  congr
  funext x g1
  congr
  funext y g2
  exact chn_tcase _ _ _ _
@[simp] theorem den_neg {a : E} : den Γ (.neg a) loc g = (den Γ a loc g).bind fun x g1 => match x with | .int i => .ok false (.int (-i)) g1 | _ => .bad := by (conv => lhs; unfold den) <;> rfl
@[simp] theorem den_not {a : E} : den Γ (.not a) loc g = (den Γ a loc g).bind fun x g1 => match truth x with | some c => .ok false (.bl (!c)) g1 | none => .bad := by (conv => lhs; unfold den) <;> rfl
@[simp] theorem den_and {a b : E} : den Γ (.and a b) loc g = (den Γ a loc g).bind fun x g1 => tcase x (den Γ b loc g1) (.ok false x g1) .bad := by
  (conv => lhs; unfold den)
  congr
  funext x g1
  exact tcase_eq x _ _ _
@[simp] theorem den_or {a b : E} : den Γ (.or a b) loc g = (den Γ a loc g).bind fun x g1 => tcase x (.ok false x g1) (den Γ b loc g1) .bad := by
  (conv => lhs; unfold den)
  congr
  funext x g1
  cases x <;> first | rfl | (rename_i b; cases b <;> rfl)
@[simp] theorem den_ite {t a b : E} : den Γ (.ite t a b) loc g = (den Γ t loc g).bind fun x g1 => tcase x (den Γ a loc g1) (den Γ b loc g1) .bad := by
  (conv => lhs; unfold den)
  congr
  funext x g1
  exact tcase_eq x _ _ _
@[simp] theorem den_tup {es : List E} : den Γ (.tup es) loc g = (denD Γ es loc g).call fun ds g1 => if decide (ds.length ≤ sizeLine) then .ok false (.tup ds) g1 else .bad := by (conv => lhs; unfold den) <;> rfl
@[simp] theorem den_lst {es : List E} : den Γ (.lst es) loc g = (denD Γ es loc g).call fun ds g1 => if decide (ds.length ≤ sizeLine) then .ok true (.lst ds) g1 else .bad := by (conv => lhs; unfold den) <;> rfl
@[simp] theorem den_idx {a b : E} : den Γ (.idx a b) loc g = (gA a loc g (den Γ a loc g)).bind fun x g1 => (gA b loc g1 (den Γ b loc g1)).bind fun y g2 => opOf loc (semV idxD) [x, y] g2 := by (conv => lhs; unfold den) <;> rfl
@[simp] theorem den_slc {a l h : E} : den Γ (.slc a l h) loc g = (gA a loc g (den Γ a loc g)).bind fun x g1 => (gP l g1 (den Γ l loc g1)).bind fun l' g2 => (gP h g2 (den Γ h loc g2)).bind fun h' g3 => opOf loc (sem3 l' h') [x] g3 := by (conv => lhs; unfold den) <;> rfl
@[simp] theorem den_rev {a : E} : den Γ (.rev a) loc g = (gA a loc g (den Γ a loc g)).bind fun x g1 => opOf loc semR [x] g1 := by (conv => lhs; unfold den) <;> rfl
@[simp] theorem den_bi {f : String} {es : List E} : den Γ (.bi f es) loc g = (denA Γ es loc g).op loc (biD f) := by (conv => lhs; unfold den) <;> rfl
@[simp] theorem den_mt {m : String} {a : E} {es : List E} : den Γ (.mt m a es) loc g = (gA a loc g (den Γ a loc g)).bind fun x g1 => match denA Γ es loc g1 with
    | .ok as g2 => opOf loc (semM m) (x :: as) g2
    | _ => .bad := by (conv => lhs; unfold den) <;> rfl
@[simp] theorem den_fld {a : E} {f : Str} : den Γ (.fld a f) loc g = (gA a loc g (den Γ a loc g)).bind fun x g1 => opOf loc (semF Γ.field Γ.xfield f) [x] g1 := by (conv => lhs; unfold den) <;> rfl
@[simp] theorem den_isc {a : E} {c : Str} : den Γ (.isc a c) loc g = (den Γ a loc g).bind fun x g1 => match iscD Γ.below Γ.belowX c x with
    | some b => .ok false (.bl b) g1
    | none => .bad := by (conv => lhs; unfold den) <;> rfl
@[simp] theorem den_col {f : String} {it : It} : den Γ (.col f it) loc g = match denI Γ it loc g with
    | .ok ds g1 => if decide (ds.length ≤ sizeLine) then (match biD f [.lst ds] with | some (own, d) => .ok own d g1 | none => .bad) else .bad
    | .ex c fs g1 => .ex c fs g1
    | .bad => .bad := by (conv => lhs; unfold den) <;> rfl
@[simp] theorem den_call {f : Str} {es : List E} {perm : List Nat} : den Γ (.call f es perm) loc g = (denA Γ es loc g).call fun ds g1 => Γ.fn f (Γ.sub loc) (permD perm ds) g1 := by (conv => lhs; unfold den) <;> rfl
@[simp] theorem den_mk {f : Str} {es : List E} {perm : List Nat} : den Γ (.mk f es perm) loc g = (denA Γ es loc g).call fun ds g1 => Γ.mkc f (Γ.sub loc) (permD perm ds) g1 := by (conv => lhs; unfold den) <;> rfl
@[simp] theorem den_cv {f : E} {es : List E} {kws : List Str} : den Γ (.cv f es kws) loc g = (den Γ f loc g).bind fun x g1 => (denA Γ es loc g1).call fun r g2 => match x with
    | .fn x => if Γ.vals.contains x && decide ((Γ.par x).length = es.length) && kwB (Γ.par x) es.length kws then Γ.fn x (Γ.sub loc) (permD (permK (Γ.par x) es.length kws) r) g2 else .bad
    | .clo id cs => if kws.isEmpty then Γ.sub loc id cs r g2 else .bad
    | _ => .bad := by (conv => lhs; unfold den) <;> rfl
@[simp] theorem den_eqi {neg : Bool} {a b : E} : den Γ (.eqi neg a b) loc g = (den Γ a loc g).bind fun x g1 => (den Γ b loc g1).bind fun y g2 => eqiK Γ neg loc x y g2 := by (conv => lhs; unfold den) <;> rfl
@[simp] theorem den_comp {e : E} {t : T} {it : It} {cond : List E} {own : List Nat} : den Γ (.comp e t it cond own) loc g = match denI Γ it loc g with
    | .ok ds g1 => match compD (fun x g' => match bindT t x (wipeL loc own) with | some l => den Γ.nc e l g' | none => .bad)
        (fun x g' => match bindT t x (wipeL loc own) with | some l => denC Γ.nc cond l g' | none => .bad) ds g1 with
      | .ok rs g2 => if decide (rs.length < sizeLine) then .ok true (.lst rs) g2 else .bad
      | .ex c fs g2 => .ex c fs g2
      | .bad => .bad
    | .ex c fs g1 => .ex c fs g1
    | .bad => .bad := by (conv => lhs; unfold den) <;> rfl
@[simp] theorem den_lam {id : Nat} {caps : List Nat} : den Γ (.lam id caps) loc g = if Γ.mine.contains id then .ok false (.clo id (Γ.caps id)) g else .bad := by (conv => lhs; unfold den) <;> rfl
@[simp] theorem denA_nil : denA Γ [] loc g = .ok [] g := by unfold denA; rfl
@[simp] theorem denA_cons {e : E} {r : List E} : denA Γ (e :: r) loc g = match gA e loc g (den Γ e loc g) with
    | .ok a g1 => (match denA Γ r loc g1 with | .ok as g2 => .ok (a :: as) g2 | x => x)
    | .ex c fs g1 => .ex c fs g1
    | .bad => .bad := by (conv => lhs; unfold denA) <;> rfl
@[simp] theorem denD_nil : denD Γ [] loc g = .ok [] g := by unfold denD; rfl
@[simp] theorem denC_nil : denC Γ [] loc g = .ok false (.bl true) g := by unfold denC; rfl
@[simp] theorem denC_one {e : E} : denC Γ [e] loc g = den Γ e loc g := by (conv => lhs; unfold denC) <;> rfl
@[simp] theorem gA_b {i : Nat} {r : Res} : gA (.b i) loc g r = match loc.at i with | some _ => .ok (.b i) g | none => .bad := rfl
theorem gA_v {e : E} (h : plainE e = true) : gA e loc g (.ok own d g') = .ok (.v d) g' := by cases e <;> first | rfl | (simp [plainE] at h)
theorem gA_ex {e : E} (h : plainE e = true) {c : Str} {fs : List (Str × D)} : gA e loc g (.ex c fs g') = .ex c fs g' := by cases e <;> first | rfl | (simp [plainE] at h)
theorem gP_v {e : E} (h : plainE e = true) {i : Int} : gP e g (.ok own (.int i) g') = .ok (some i) g' := by cases e <;> first | rfl | (simp [plainE] at h)
@[simp] theorem gP_no {r : Res} : gP .no g r = .ok none g := rfl
end
end PyD
end
section
set_option Elab.async false
set_option linter.all false
set_option maxRecDepth 100000
set_option maxHeartbeats 1000000
namespace PyD
open PySem
def toG (r : Res) : ResG := match r with
  | .ok _ d g => .ok (.v d) g
  | .ex c fs g => .ex c fs g
  | .bad => .bad
def toP (r : Res) : ResP := match r with
  | .ok _ (.int i) g => .ok (some i) g
  | .ex c fs g => .ex c fs g
  | _ => .bad
@[simp] theorem toG_ok {own : Bool} {d : D} {g : G} : toG (.ok own d g) = .ok (.v d) g := rfl
@[simp] theorem toG_ex {c : Str} {fs : List (Str × D)} {g : G} : toG (.ex c fs g) = .ex c fs g := rfl
@[simp] theorem toG_if {p : Prop} [Decidable p] {r r2 : Res} : toG (if p then r else r2) = if p then toG r else toG r2 := by split <;> rfl
@[simp] theorem toP_ok {own : Bool} {i : Int} {g : G} : toP (.ok own (.int i) g) = .ok (some i) g := rfl
section
variable {Γ : Env'} {loc : Loc} {g : G} {r : Res}
@[simp] theorem ga_v {i : Nat} : gA (.v i) loc g r = toG r := rfl
@[simp] theorem gp_v {i : Nat} : gP (.v i) g r = toP r := rfl
@[simp] theorem ga_c {d : D} : gA (.c d) loc g r = toG r := rfl
@[simp] theorem gp_c {d : D} : gP (.c d) g r = toP r := rfl
@[simp] theorem ga_g {x : Str} {d : D} : gA (.g x d) loc g r = toG r := rfl
@[simp] theorem gp_g {x : Str} {d : D} : gP (.g x d) g r = toP r := rfl
@[simp] theorem ga_bin {op : Operator} {a b : E} : gA (.bin op a b) loc g r = toG r := rfl
@[simp] theorem gp_bin {op : Operator} {a b : E} : gP (.bin op a b) g r = toP r := rfl
@[simp] theorem ga_cmp {op : CmpOp} {a b : E} : gA (.cmp op a b) loc g r = toG r := rfl
@[simp] theorem gp_cmp {op : CmpOp} {a b : E} : gP (.cmp op a b) g r = toP r := rfl
@[simp] theorem ga_chn {op op2 : CmpOp} {a b c : E} : gA (.chn op op2 a b c) loc g r = toG r := rfl
@[simp] theorem gp_chn {op op2 : CmpOp} {a b c : E} : gP (.chn op op2 a b c) g r = toP r := rfl
@[simp] theorem ga_neg {a : E} : gA (.neg a) loc g r = toG r := rfl
@[simp] theorem gp_neg {a : E} : gP (.neg a) g r = toP r := rfl
@[simp] theorem ga_not {a : E} : gA (.not a) loc g r = toG r := rfl
@[simp] theorem gp_not {a : E} : gP (.not a) g r = toP r := rfl
@[simp] theorem ga_and {a b : E} : gA (.and a b) loc g r = toG r := rfl
@[simp] theorem gp_and {a b : E} : gP (.and a b) g r = toP r := rfl
@[simp] theorem ga_or {a b : E} : gA (.or a b) loc g r = toG r := rfl
@[simp] theorem gp_or {a b : E} : gP (.or a b) g r = toP r := rfl
@[simp] theorem ga_ite {a b c : E} : gA (.ite a b c) loc g r = toG r := rfl
@[simp] theorem gp_ite {a b c : E} : gP (.ite a b c) g r = toP r := rfl
@[simp] theorem ga_tup {es : List E} : gA (.tup es) loc g r = toG r := rfl
@[simp] theorem gp_tup {es : List E} : gP (.tup es) g r = toP r := rfl
@[simp] theorem ga_lst {es : List E} : gA (.lst es) loc g r = toG r := rfl
@[simp] theorem gp_lst {es : List E} : gP (.lst es) g r = toP r := rfl
@[simp] theorem ga_idx {a b : E} : gA (.idx a b) loc g r = toG r := rfl
@[simp] theorem gp_idx {a b : E} : gP (.idx a b) g r = toP r := rfl
@[simp] theorem ga_slc {a b c : E} : gA (.slc a b c) loc g r = toG r := rfl
@[simp] theorem gp_slc {a b c : E} : gP (.slc a b c) g r = toP r := rfl
@[simp] theorem ga_rev {a : E} : gA (.rev a) loc g r = toG r := rfl
@[simp] theorem gp_rev {a : E} : gP (.rev a) g r = toP r := rfl
@[simp] theorem ga_bi {f : String} {es : List E} : gA (.bi f es) loc g r = toG r := rfl
@[simp] theorem gp_bi {f : String} {es : List E} : gP (.bi f es) g r = toP r := rfl
@[simp] theorem ga_mt {m : String} {a : E} {es : List E} : gA (.mt m a es) loc g r = toG r := rfl
@[simp] theorem gp_mt {m : String} {a : E} {es : List E} : gP (.mt m a es) g r = toP r := rfl
@[simp] theorem ga_fld {a : E} {f : Str} : gA (.fld a f) loc g r = toG r := rfl
@[simp] theorem gp_fld {a : E} {f : Str} : gP (.fld a f) g r = toP r := rfl
@[simp] theorem ga_isc {a : E} {f : Str} : gA (.isc a f) loc g r = toG r := rfl
@[simp] theorem gp_isc {a : E} {f : Str} : gP (.isc a f) g r = toP r := rfl
@[simp] theorem ga_bty {n : String} : gA (.bty n) loc g r = toG r := rfl
@[simp] theorem gp_bty {n : String} : gP (.bty n) g r = toP r := rfl
@[simp] theorem ga_col {f : String} {it : It} : gA (.col f it) loc g r = toG r := rfl
@[simp] theorem gp_col {f : String} {it : It} : gP (.col f it) g r = toP r := rfl
@[simp] theorem ga_call {f : Str} {es : List E} {p : List Nat} : gA (.call f es p) loc g r = toG r := rfl
@[simp] theorem gp_call {f : Str} {es : List E} {p : List Nat} : gP (.call f es p) g r = toP r := rfl
@[simp] theorem ga_mk {f : Str} {es : List E} {p : List Nat} : gA (.mk f es p) loc g r = toG r := rfl
@[simp] theorem gp_mk {f : Str} {es : List E} {p : List Nat} : gP (.mk f es p) g r = toP r := rfl
@[simp] theorem ga_cv {f : E} {es : List E} {p : List Str} : gA (.cv f es p) loc g r = toG r := rfl
@[simp] theorem gp_cv {f : E} {es : List E} {p : List Str} : gP (.cv f es p) g r = toP r := rfl
@[simp] theorem ga_eqi {n : Bool} {a b : E} : gA (.eqi n a b) loc g r = toG r := rfl
@[simp] theorem gp_eqi {n : Bool} {a b : E} : gP (.eqi n a b) g r = toP r := rfl
@[simp] theorem ga_comp {e : E} {t : T} {it : It} {c : List E} {o : List Nat} : gA (.comp e t it c o) loc g r = toG r := rfl
@[simp] theorem gp_comp {e : E} {t : T} {it : It} {c : List E} {o : List Nat} : gP (.comp e t it c o) g r = toP r := rfl
@[simp] theorem ga_lam {i : Nat} {c : List Nat} : gA (.lam i c) loc g r = toG r := rfl
@[simp] theorem gp_lam {i : Nat} {c : List Nat} : gP (.lam i c) g r = toP r := rfl
@[simp] theorem ga_edic  : gA (.edic) loc g r = toG r := rfl
@[simp] theorem gp_edic  : gP (.edic) g r = toP r := rfl
@[simp] theorem ga_dg {i : Nat} {k : String} : gA (.dg i k) loc g r = toG r := rfl
@[simp] theorem gp_dg {i : Nat} {k : String} : gP (.dg i k) g r = toP r := rfl
@[simp] theorem ga_dne {i : Nat} : gA (.dne i) loc g r = toG r := rfl
@[simp] theorem gp_dne {i : Nat} : gP (.dne i) g r = toP r := rfl
@[simp] theorem ga_dpop {i : Nat} : gA (.dpop i) loc g r = toG r := rfl
@[simp] theorem gp_dpop {i : Nat} : gP (.dpop i) g r = toP r := rfl
end
section
variable {Γ : Env'} {loc : Loc} {g g' : G} {own : Bool} {d : D}
def denDk (r : Res) (k : G → ResA) : ResA := match r with
  | .ok _ d g1 => (match k g1 with | .ok as g2 => .ok (.v d :: as) g2 | x => x)
  | .ex c fs g1 => .ex c fs g1
  | .bad => .bad
@[simp] theorem denDk_ok {k : G → ResA} : denDk (.ok own d g) k = match k g with | .ok as g2 => .ok (.v d :: as) g2 | x => x := rfl
@[simp] theorem denDk_ex {c : Str} {fs : List (Str × D)} {k : G → ResA} : denDk (.ex c fs g) k = .ex c fs g := rfl
@[simp] theorem dd_v {i : Nat} {r : List E} : denD Γ (.v i :: r) loc g = denDk (den Γ (.v i) loc g) fun g1 => denD Γ r loc g1 := by (conv => lhs; unfold denD) <;> rfl
@[simp] theorem dd_c {d : D} {r : List E} : denD Γ (.c d :: r) loc g = denDk (den Γ (.c d) loc g) fun g1 => denD Γ r loc g1 := by (conv => lhs; unfold denD) <;> rfl
@[simp] theorem dd_g {x : Str} {d : D} {r : List E} : denD Γ (.g x d :: r) loc g = denDk (den Γ (.g x d) loc g) fun g1 => denD Γ r loc g1 := by (conv => lhs; unfold denD) <;> rfl
@[simp] theorem dd_bin {op : Operator} {a b : E} {r : List E} : denD Γ (.bin op a b :: r) loc g = denDk (den Γ (.bin op a b) loc g) fun g1 => denD Γ r loc g1 := by (conv => lhs; unfold denD) <;> rfl
@[simp] theorem dd_cmp {op : CmpOp} {a b : E} {r : List E} : denD Γ (.cmp op a b :: r) loc g = denDk (den Γ (.cmp op a b) loc g) fun g1 => denD Γ r loc g1 := by (conv => lhs; unfold denD) <;> rfl
@[simp] theorem dd_chn {op op2 : CmpOp} {a b c : E} {r : List E} : denD Γ (.chn op op2 a b c :: r) loc g = denDk (den Γ (.chn op op2 a b c) loc g) fun g1 => denD Γ r loc g1 := by (conv => lhs; unfold denD) <;> rfl
@[simp] theorem dd_neg {a : E} {r : List E} : denD Γ (.neg a :: r) loc g = denDk (den Γ (.neg a) loc g) fun g1 => denD Γ r loc g1 := by (conv => lhs; unfold denD) <;> rfl
@[simp] theorem dd_not {a : E} {r : List E} : denD Γ (.not a :: r) loc g = denDk (den Γ (.not a) loc g) fun g1 => denD Γ r loc g1 := by (conv => lhs; unfold denD) <;> rfl
@[simp] theorem dd_and {a b : E} {r : List E} : denD Γ (.and a b :: r) loc g = denDk (den Γ (.and a b) loc g) fun g1 => denD Γ r loc g1 := by (conv => lhs; unfold denD) <;> rfl
@[simp] theorem dd_or {a b : E} {r : List E} : denD Γ (.or a b :: r) loc g = denDk (den Γ (.or a b) loc g) fun g1 => denD Γ r loc g1 := by (conv => lhs; unfold denD) <;> rfl
@[simp] theorem dd_ite {a b c : E} {r : List E} : denD Γ (.ite a b c :: r) loc g = denDk (den Γ (.ite a b c) loc g) fun g1 => denD Γ r loc g1 := by (conv => lhs; unfold denD) <;> rfl
@[simp] theorem dd_tup {es : List E} {r : List E} : denD Γ (.tup es :: r) loc g = denDk (den Γ (.tup es) loc g) fun g1 => denD Γ r loc g1 := by (conv => lhs; unfold denD) <;> rfl
@[simp] theorem dd_lst {es : List E} {r : List E} : denD Γ (.lst es :: r) loc g = denDk (den Γ (.lst es) loc g) fun g1 => denD Γ r loc g1 := by (conv => lhs; unfold denD) <;> rfl
@[simp] theorem dd_idx {a b : E} {r : List E} : denD Γ (.idx a b :: r) loc g = denDk (den Γ (.idx a b) loc g) fun g1 => denD Γ r loc g1 := by (conv => lhs; unfold denD) <;> rfl
@[simp] theorem dd_slc {a b c : E} {r : List E} : denD Γ (.slc a b c :: r) loc g = denDk (den Γ (.slc a b c) loc g) fun g1 => denD Γ r loc g1 := by (conv => lhs; unfold denD) <;> rfl
@[simp] theorem dd_rev {a : E} {r : List E} : denD Γ (.rev a :: r) loc g = denDk (den Γ (.rev a) loc g) fun g1 => denD Γ r loc g1 := by (conv => lhs; unfold denD) <;> rfl
@[simp] theorem dd_bi {f : String} {es : List E} {r : List E} : denD Γ (.bi f es :: r) loc g = denDk (den Γ (.bi f es) loc g) fun g1 => denD Γ r loc g1 := by (conv => lhs; unfold denD) <;> rfl
@[simp] theorem dd_mt {m : String} {a : E} {es : List E} {r : List E} : denD Γ (.mt m a es :: r) loc g = denDk (den Γ (.mt m a es) loc g) fun g1 => denD Γ r loc g1 := by (conv => lhs; unfold denD) <;> rfl
@[simp] theorem dd_fld {a : E} {f : Str} {r : List E} : denD Γ (.fld a f :: r) loc g = denDk (den Γ (.fld a f) loc g) fun g1 => denD Γ r loc g1 := by (conv => lhs; unfold denD) <;> rfl
@[simp] theorem dd_isc {a : E} {f : Str} {r : List E} : denD Γ (.isc a f :: r) loc g = denDk (den Γ (.isc a f) loc g) fun g1 => denD Γ r loc g1 := by (conv => lhs; unfold denD) <;> rfl
@[simp] theorem dd_bty {n : String} {r : List E} : denD Γ (.bty n :: r) loc g = denDk (den Γ (.bty n) loc g) fun g1 => denD Γ r loc g1 := by (conv => lhs; unfold denD) <;> rfl
@[simp] theorem dd_col {f : String} {it : It} {r : List E} : denD Γ (.col f it :: r) loc g = denDk (den Γ (.col f it) loc g) fun g1 => denD Γ r loc g1 := by (conv => lhs; unfold denD) <;> rfl
@[simp] theorem dd_call {f : Str} {es : List E} {p : List Nat} {r : List E} : denD Γ (.call f es p :: r) loc g = denDk (den Γ (.call f es p) loc g) fun g1 => denD Γ r loc g1 := by (conv => lhs; unfold denD) <;> rfl
@[simp] theorem dd_mk {f : Str} {es : List E} {p : List Nat} {r : List E} : denD Γ (.mk f es p :: r) loc g = denDk (den Γ (.mk f es p) loc g) fun g1 => denD Γ r loc g1 := by (conv => lhs; unfold denD) <;> rfl
@[simp] theorem dd_cv {f : E} {es : List E} {p : List Str} {r : List E} : denD Γ (.cv f es p :: r) loc g = denDk (den Γ (.cv f es p) loc g) fun g1 => denD Γ r loc g1 := by (conv => lhs; unfold denD) <;> rfl
@[simp] theorem dd_eqi {n : Bool} {a b : E} {r : List E} : denD Γ (.eqi n a b :: r) loc g = denDk (den Γ (.eqi n a b) loc g) fun g1 => denD Γ r loc g1 := by (conv => lhs; unfold denD) <;> rfl
@[simp] theorem dd_comp {e : E} {t : T} {it : It} {c : List E} {o : List Nat} {r : List E} : denD Γ (.comp e t it c o :: r) loc g = denDk (den Γ (.comp e t it c o) loc g) fun g1 => denD Γ r loc g1 := by (conv => lhs; unfold denD) <;> rfl
@[simp] theorem dd_lam {i : Nat} {c : List Nat} {r : List E} : denD Γ (.lam i c :: r) loc g = denDk (den Γ (.lam i c) loc g) fun g1 => denD Γ r loc g1 := by (conv => lhs; unfold denD) <;> rfl
@[simp] theorem dd_edic  {r : List E} : denD Γ (.edic :: r) loc g = denDk (den Γ (.edic) loc g) fun g1 => denD Γ r loc g1 := by (conv => lhs; unfold denD) <;> rfl
@[simp] theorem dd_dg {i : Nat} {k : String} {r : List E} : denD Γ (.dg i k :: r) loc g = denDk (den Γ (.dg i k) loc g) fun g1 => denD Γ r loc g1 := by (conv => lhs; unfold denD) <;> rfl
@[simp] theorem dd_dne {i : Nat} {r : List E} : denD Γ (.dne i :: r) loc g = denDk (den Γ (.dne i) loc g) fun g1 => denD Γ r loc g1 := by (conv => lhs; unfold denD) <;> rfl
@[simp] theorem dd_dpop {i : Nat} {r : List E} : denD Γ (.dpop i :: r) loc g = denDk (den Γ (.dpop i) loc g) fun g1 => denD Γ r loc g1 := by (conv => lhs; unfold denD) <;> rfl
end
@[simp] theorem at_eq {loc : Loc} {i : Nat} : loc.at i = match loc[i]? with | some (some (_, d)) => some d | _ => none := rfl
@[simp] theorem val_v {loc : Loc} {d : D} : (Arg.v d).val loc = some d := rfl
@[simp] theorem val_b {loc : Loc} {i : Nat} : (Arg.b i).val loc = loc.at i := rfl
@[simp] theorem vals_nil {loc : Loc} : valsOf loc [] = some [] := rfl
@[simp] theorem vals_cns {loc : Loc} {a : Arg} {r : List Arg} : valsOf loc (a :: r) = match a.val loc, valsOf loc r with | some d, some ds => some (d :: ds) | _, _ => none := by (conv => lhs; unfold valsOf) <;> rfl
@[simp] theorem opOf_of {loc : Loc} {sem : List D → Option (Bool × D)} {as : List Arg} {g : G} : opOf loc sem as g = match valsOf loc as with
  | some ds => (match sem ds with
    | some (own, d) => .ok own d g
    | none => .bad)
  | none => .bad := rfl
@[simp] theorem op_of {loc : Loc} {sem : List D → Option (Bool × D)} {as : List Arg} {g : G} : (ResA.ok as g).op loc sem = match valsOf loc as with
  | some ds => (match sem ds with
    | some (own, d) => .ok own d g
    | none => .bad)
  | none => .bad := rfl
@[simp] theorem op_ex {loc : Loc} {sem : List D → Option (Bool × D)} {g : G} {c : Str} {fs : List (Str × D)} : (ResA.ex c fs g).op loc sem = .ex c fs g := rfl
@[simp] theorem bi_len {d : D} : biD "len" [d] = match d.items with | some l => some (false, .int l.length) | none => none := rfl
@[simp] theorem bi_abs {i : Int} : biD "abs" [.int i] = some (false, .int i.natAbs) := rfl
@[simp] theorem bi_int {i : Int} : biD "int" [.int i] = some (false, .int i) := rfl
@[simp] theorem bi_intb {b : Bool} : biD "int" [.bl b] = some (false, .int (if b then 1 else 0)) := rfl
@[simp] theorem bi_min {i j : Int} : biD "min" [.int i, .int j] = some (false, .int (min i j)) := rfl
@[simp] theorem bi_max {i j : Int} : biD "max" [.int i, .int j] = some (false, .int (max i j)) := rfl
@[simp] theorem bi_tuple {d : D} : biD "tuple" [d] = match d.items with | some l => some (false, .tup l) | none => none := rfl
@[simp] theorem bi_list {d : D} : biD "list" [d] = match d.items with | some l => some (true, .lst l) | none => none := rfl
@[simp] theorem bi_sum {d : D} : biD "sum" [d] = match d.items with | some l => (match D.ints l with | some s => some (false, .int s.sum) | none => none) | none => none := rfl
@[simp] theorem bi_all {l : List D} : biD "all" [.lst l] = match D.bools l with | some bs => some (false, .bl (bs.all id)) | none => none := rfl
@[simp] theorem bi_any {l : List D} : biD "any" [.lst l] = match D.bools l with | some bs => some (false, .bl (bs.any id)) | none => none := rfl
@[simp] theorem bi_isi {d : D} {n : String} : biD "isinstance" [d, .ty n] = if knownTy n && (tyD d).isSome then some (false, .bl (isTy n d)) else none := rfl
@[simp] theorem bi_isi2 {d : D} {n m : String} : biD "isinstance" [d, .tup [.ty n, .ty m]] = if knownTy n && knownTy m && (tyD d).isSome then some (false, .bl (isTy n d || isTy m d)) else none := rfl
@[simp] theorem bi_str {i : Int} : biD "str" [.int i] = if decide (i.natAbs.log2 < 1920) then some (false, .str (Str.ofString (toString i))) else none := rfl
@[simp] theorem kt_int : knownTy "int" = true := rfl
@[simp] theorem kt_bool : knownTy "bool" = true := rfl
@[simp] theorem kt_tuple : knownTy "tuple" = true := rfl
@[simp] theorem kt_list : knownTy "list" = true := rfl
@[simp] theorem kt_str : knownTy "str" = true := rfl
@[simp] theorem kt_dict : knownTy "dict" = true := rfl
@[simp] theorem it_tup {l : List D} : (D.tup l).items = some l := rfl
@[simp] theorem it_lst {l : List D} : (D.lst l).items = some l := rfl
@[simp] theorem it_scr {l : List Int} : (D.scr l).items = some (l.map D.int) := rfl
@[simp] theorem tr_bl {b : Bool} : truth (.bl b) = some b := rfl
@[simp] theorem pm_nil {α : Type} (l : List α) : permL [] l = l := rfl
@[simp] theorem s2_eq {f : D → D → Option (Bool × D)} {x y : D} : sem2 f [x, y] = f x y := rfl
@[simp] theorem sB_eq {f : D → D → Option Bool} {x y : D} : semB f [x, y] = match f x y with | some c => some (false, .bl c) | none => none := rfl
@[simp] theorem sV_eq {f : D → D → Option D} {x y : D} : semV f [x, y] = match f x y with | some d => some (false, d) | none => none := rfl
@[simp] theorem s3_eq {l h : Option Int} {x : D} : sem3 l h [x] = slcD x l h := rfl
@[simp] theorem sR_eq {x : D} : semR [x] = revD x := rfl
@[simp] theorem sM_eq {m : String} {o : D} {r : List D} : semM m (o :: r) = mtD m o r := rfl
@[simp] theorem rev_l {l : List D} : revD (.lst l) = some (true, .lst l.reverse) := rfl
@[simp] theorem rev_t {l : List D} : revD (.tup l) = some (false, .tup l.reverse) := rfl
@[simp] theorem c_eq {a b : D} : cmpD .Eq a b = eqD a b := rfl
@[simp] theorem c_ne {a b : D} : cmpD .NotEq a b = match eqD a b with | some c => some (!c) | none => none := rfl
@[simp] theorem c_lt {i j : Int} : cmpD .Lt (.int i) (.int j) = some (decide (i < j)) := rfl
@[simp] theorem c_le {i j : Int} : cmpD .LtE (.int i) (.int j) = some (decide (i ≤ j)) := rfl
@[simp] theorem c_gt {i j : Int} : cmpD .Gt (.int i) (.int j) = some (decide (j < i)) := rfl
@[simp] theorem c_ge {i j : Int} : cmpD .GtE (.int i) (.int j) = some (decide (j ≤ i)) := rfl
@[simp] theorem c_isb {a : D} {b : Bool} : cmpD .Is a (.bl b) = some (a.isBl b) := by cases a <;> rfl
@[simp] theorem c_isnb {a : D} {b : Bool} : cmpD .IsNot a (.bl b) = some (!a.isBl b) := by cases a <;> rfl
@[simp] theorem c_isn {a : D} : cmpD .Is a .non = some a.isNon := by cases a <;> rfl
@[simp] theorem c_isnn {a : D} : cmpD .IsNot a .non = some (!a.isNon) := by cases a <;> rfl
@[simp] theorem b_add {i j : Int} : binD .Add (.int i) (.int j) = some (false, .int (i + j)) := rfl
@[simp] theorem b_sub {i j : Int} : binD .Sub (.int i) (.int j) = some (false, .int (i - j)) := rfl
@[simp] theorem b_mul {i j : Int} : binD .Mult (.int i) (.int j) = if smallI i || smallI j then some (false, .int (i * j)) else none := rfl
@[simp] theorem b_fdv {i j : Int} : binD .FloorDiv (.int i) (.int j) = if decide (0 < j) && ltI (2 ^ 30) j then some (false, .int (i / j)) else none := rfl
@[simp] theorem b_mod {i j : Int} : binD .Mod (.int i) (.int j) = if decide (0 < j) then some (false, .int (i % j)) else none := rfl
@[simp] theorem b_pow {i j : Int} : binD .Pow (.int i) (.int j) = if decide (0 ≤ j) && decide (j ≤ 64) && smallI i then some (false, .int (i ^ j.toNat)) else none := rfl
@[simp] theorem b_addl {a b : List D} : binD .Add (.lst a) (.lst b) = if decide (a.length + b.length ≤ sizeLine) then some (true, .lst (a ++ b)) else none := rfl
@[simp] theorem b_addt {a b : List D} : binD .Add (.tup a) (.tup b) = if decide (a.length + b.length ≤ sizeLine) then some (false, .tup (a ++ b)) else none := rfl
@[simp] theorem b_adds {a b : Str} : binD .Add (.str a) (.str b) = if decide (a.length + b.length ≤ sizeLine) then some (false, .str (a ++ b)) else none := rfl
@[simp] theorem b_mull {a : List D} {j : Int} : binD .Mult (.lst a) (.int j) = if decide (0 ≤ j) && ltI (2 ^ 63) j && decide (a.length * j.toNat ≤ sizeLine) then some (true, .lst (List.replicate j.toNat a).flatten) else none := rfl
@[simp] theorem bT_s {i : Nat} {d : D} {loc : PyD.Loc} : bindT (.s i) d loc = some (loc.set i (some (false, d))) := rfl
@[simp] theorem bT_t {ts : List T} {ds : List D} {loc : PyD.Loc} : bindT (.t ts) (.tup ds) loc = bindTs ts ds loc := rfl
@[simp] theorem bTs_nil {loc : PyD.Loc} : bindTs [] [] loc = some loc := rfl
@[simp] theorem bTs_cons {t : T} {ts : List T} {d : D} {ds : List D} {loc : PyD.Loc} : bindTs (t :: ts) (d :: ds) loc = match bindT t d loc with | some l => bindTs ts ds l | none => none := rfl
@[simp] theorem wipe_nil {loc : PyD.Loc} : wipeL loc [] = loc := rfl
@[simp] theorem wipe_cons {loc : PyD.Loc} {i : Nat} {r : List Nat} : wipeL loc (i :: r) = (wipeL loc r).set i none := rfl
def ResS.seq (r : ResS) (k : PyD.Loc → G → ResS) : ResS := match r with
  | .nx l g => k l g
  | y => y
section
variable {Γ : Env'} {loc : PyD.Loc} {g : G}
@[simp] theorem seq_nx {k : PyD.Loc → G → ResS} : (ResS.nx loc g).seq k = k loc g := rfl
@[simp] theorem seq_rt {own : Bool} {d : D} {k : PyD.Loc → G → ResS} : (ResS.rt own d g).seq k = .rt own d g := rfl
@[simp] theorem seq_ex {c : Str} {fs : List (Str × D)} {k : PyD.Loc → G → ResS} : (ResS.ex c fs g).seq k = .ex c fs g := rfl
@[simp] theorem seq_bk {k : PyD.Loc → G → ResS} : (ResS.bk loc g).seq k = .bk loc g := rfl
@[simp] theorem xs_nil : exes Γ [] loc g = .nx loc g := by unfold exes; rfl
@[simp] theorem xs_cons {s : S} {r : List S} : exes Γ (s :: r) loc g = (exe Γ s loc g).seq fun l' g' => exes Γ r l' g' := by
  (conv => lhs; unfold exes)
  unfold ResS.seq
  cases exe Γ s loc g <;> rfl
@[simp] theorem x_ex {e : E} : exe Γ (.ex e) loc g = (den Γ e loc g).st fun _ _ g1 => .nx loc g1 := by (conv => lhs; unfold exe) <;> rfl
@[simp] theorem x_asg {t : T} {e : E} : exe Γ (.asg t e) loc g = (den Γ e loc g).st fun _ d g1 => match bindT t d loc with | some l => .nx l g1 | none => .bad := by (conv => lhs; unfold exe) <;> rfl
@[simp] theorem x_own {i : Nat} {e : E} : exe Γ (.own i e) loc g = (den Γ e loc g).st fun own d g1 => .nx (loc.set i (some (own, d))) g1 := by (conv => lhs; unfold exe) <;> rfl
@[simp] theorem x_asgs {ts : List TG'} {es : List E} : exe Γ (.asgs ts es) loc g = match denO Γ ts es loc g with
    | .ok ds g1 => storeG Γ ts ds loc g1
    | .ex c fs g1 => .ex c fs g1
    | .bad => .bad := by (conv => lhs; unfold exe) <;> rfl
@[simp] theorem x_pass : exe Γ .pass loc g = .nx loc g := by unfold exe; rfl
@[simp] theorem x_brk : exe Γ .brk loc g = .bk loc g := by unfold exe; rfl
@[simp] theorem x_put {i : Nat} {ix e : E} : exe Γ (.put i ix e) loc g = match ownL loc i with
    | some l => (den Γ e loc g).st fun _ d g1 => (den Γ ix loc g1).st fun _ x g2 => match x with
      | .int k => match ixOf l.length k with | some n => .nx (setL loc i (l.set n d)) g2 | none => .bad
      | _ => .bad
    | none => .bad := by (conv => lhs; unfold exe) <;> rfl
@[simp] theorem x_app {i : Nat} {e : E} : exe Γ (.app i e) loc g = match ownL loc i with
    | some l => (den Γ e loc g).st fun _ d g1 => if decide (l.length < sizeLine) then .nx (setL loc i (l ++ [d])) g1 else .bad
    | none => .bad := by (conv => lhs; unfold exe) <;> rfl
@[simp] theorem x_mut {i : Nat} {m : String} {es : List E} : exe Γ (.mut i m es) loc g = match ownL loc i with
    | some l => (denA Γ es loc g).st loc fun ds g1 => match mutD m l ds with | some l' => .nx (setL loc i l') g1 | none => .bad
    | none => .bad := by (conv => lhs; unfold exe) <;> rfl
@[simp] theorem x_pop {t : T} {i : Nat} {es : List E} : exe Γ (.pop t i es) loc g = match ownL loc i with
    | some l => (denA Γ es loc g).st loc fun ds g1 => match popD l ds with
      | some (d, l') => match bindT t d (setL loc i l') with | some l2 => .nx l2 g1 | none => .bad
      | none => .bad
    | none => .bad := by (conv => lhs; unfold exe) <;> rfl
@[simp] theorem x_apop {i j : Nat} {es : List E} : exe Γ (.apop j i es) loc g = match ownL loc i, ownL loc j with
    | some l, some m => (denA Γ es loc g).st loc fun ds g1 => match popD l ds with
      | some (d, l') => if j = i then .bad else if decide (m.length < sizeLine) then .nx (setL (setL loc i l') j (m ++ [d])) g1 else .bad
      | none => .bad
    | _, _ => .bad := by (conv => lhs; unfold exe) <;> rfl
@[simp] theorem x_frz {i : Nat} : exe Γ (.frz i) loc g = match loc[i]? with
    | some (some (_, d)) => .nx (loc.set i (some (false, d))) g
    | _ => .bad := by (conv => lhs; unfold exe) <;> rfl
@[simp] theorem x_ite {t : E} {a b : List S} : exe Γ (.ite t a b) loc g = (den Γ t loc g).st fun _ x g1 => tcase x (exes Γ a loc g1) (exes Γ b loc g1) .bad := by
  (conv => lhs; unfold exe)
  congr
  funext o x g1
  exact tcase_eq x _ _ _
theorem x_loop {t : T} {it : It} {a : List S} : exe Γ (.loop t it a) loc g = (denI Γ it loc g).st fun ds g1 => loopD (bindT t) (fun l g' => exes Γ a l g') ds loc g1 := by (conv => lhs; unfold exe) <;> rfl
theorem x_whl {t : E} {a : List S} : exe Γ (.whl t a) loc g = whlD (fun l g' => den Γ t l g') (fun l g' => exes Γ a l g') Γ.fuel loc g := by (conv => lhs; unfold exe) <;> rfl
@[simp] theorem x_ret {e : E} : exe Γ (.ret e) loc g = (den Γ e loc g).st fun own d g1 => .rt own d g1 := by (conv => lhs; unfold exe) <;> rfl
@[simp] theorem x_rai {c : Str} {es : List E} : exe Γ (.rai c es) loc g = match denA Γ es loc g with
    | .ok as g1 => match plainArgs as with
      | some ds => match Γ.mkc c Γ.clo ds g1 with
        | .ok _ (.exc c' fs) g2 => .ex c' fs g2
        | _ => .bad
      | none => .bad
    | .ex c fs g1 => .ex c fs g1
    | .bad => .bad := by (conv => lhs; unfold exe) <;> rfl
@[simp] theorem x_fput {i : Nat} {f : Str} {e : E} : exe Γ (.fput i f e) loc g = match loc[i]? with
    | some (some (false, .box k)) => (den Γ e loc g).st fun _ d g1 => match g1.bx[k]? with
      | some (.ins c fs) => if decide (fs.length < 1000) && Γ.field c f then .nx loc { bx := g1.bx.set k (.ins c (putD f d fs)) } else .bad
      | _ => .bad
    | _ => .bad := by (conv => lhs; unfold exe) <;> rfl
@[simp] theorem x_dput {i : Nat} {k : String} {e : E} : exe Γ (.dput i k e) loc g = (den Γ e loc g).st fun _ d g1 => match d, drwAt loc g1 i with
    | .int z, some (n, large, rest, cells, turn) => if k = "rest" then .nx loc ⟨g1.bx.set n (.drw large z cells turn)⟩ else if k = "turn" then .nx loc ⟨g1.bx.set n (.drw large rest cells z)⟩ else .bad
    | _, _ => .bad := by (conv => lhs; unfold exe) <;> rfl
@[simp] theorem x_rmkd {i : Nat} {e : E} : exe Γ (.rmkd i e) loc g = match ownL loc i with
    | some l => (den Γ e loc g).st fun _ d g1 => match D.ints l, d with
      | some large, .lst ds => match D.ints ds with
        | some cells => .rt false (.box g1.bx.length) ⟨g1.bx ++ [.drw large 0 cells 0]⟩
        | none => .bad
      | _, _ => .bad
    | none => .bad := by (conv => lhs; unfold exe) <;> rfl
@[simp] theorem x_catch {i n : Nat} {e : E} : exe Γ (.catch i n e) loc g = match den Γ e loc g with
    | .ok _ _ g1 => .nx loc g1
    | .ex c fs g1 => if Γ.errs.contains c then .nx ((loc.set n none).set i (some (false, .exc c fs))) g1 else .bad
    | .bad => .bad := by (conv => lhs; unfold exe) <;> rfl
def argsI (loc : PyD.Loc) (sem : List D → Option (List D)) (r : ResA) : ResL := match r with
  | .ok as g1 => (match valsOf loc as with
    | some ds => (match sem ds with | some l => .ok l g1 | none => .bad)
    | none => .bad)
  | .ex c fs g1 => .ex c fs g1
  | .bad => .bad
theorem argsI_ok {sem : List D → Option (List D)} {as : List Arg} {ds l : List D} (h : valsOf loc as = some ds) (hs : sem ds = some l) : argsI loc sem (.ok as g) = .ok l g := by unfold argsI; simp only [h, hs]
@[simp] theorem argsI_eq {sem : List D → Option (List D)} {as : List Arg} : argsI loc sem (.ok as g) = match valsOf loc as with
    | some ds => (match sem ds with | some l => .ok l g | none => .bad)
    | none => .bad := rfl
@[simp] theorem i_rng {es : List E} : denI Γ (.rng es) loc g = argsI loc rngD (denA Γ es loc g) := by (conv => lhs; unfold denI) <;> rfl
@[simp] theorem i_enu {es : List E} : denI Γ (.enu es) loc g = argsI loc enuA (denA Γ es loc g) := by (conv => lhs; unfold denI) <;> rfl
@[simp] theorem i_zip {es : List E} : denI Γ (.zip es) loc g = argsI loc zipA (denA Γ es loc g) := by (conv => lhs; unfold denI) <;> rfl
@[simp] theorem i_seq {e : E} : denI Γ (.seq e) loc g = match gA e loc g (den Γ e loc g) with
    | .ok a g1 => (match a.val loc with
      | some d => (match d.items with | some ds => .ok ds g1 | none => .bad)
      | none => .bad)
    | .ex c fs g1 => .ex c fs g1
    | .bad => .bad := by (conv => lhs; unfold denI) <;> rfl
@[simp] theorem dO_nil : denO Γ [] [] loc g = .ok [] g := rfl
@[simp] theorem dO_o {i : Nat} {ts : List TG'} {e : E} {r : List E} : denO Γ (.o i :: ts) (e :: r) loc g = match den Γ e loc g with
    | .ok own d g1 => (match denO Γ ts r loc g1 with | .ok ds g2 => .ok ((own, d) :: ds) g2 | x => x)
    | .ex c fs g1 => .ex c fs g1
    | .bad => .bad := by (conv => lhs; unfold denO) <;> rfl
@[simp] theorem dO_t {t : T} {ts : List TG'} {e : E} {r : List E} : denO Γ (.t t :: ts) (e :: r) loc g = match (den Γ e loc g).frz with
    | .ok own d g1 => (match denO Γ ts r loc g1 with | .ok ds g2 => .ok ((own, d) :: ds) g2 | x => x)
    | .ex c fs g1 => .ex c fs g1
    | .bad => .bad := by (conv => lhs; unfold denO) <;> rfl
@[simp] theorem dO_p {i : Nat} {ix : E} {ts : List TG'} {e : E} {r : List E} : denO Γ (.p i ix :: ts) (e :: r) loc g = match (den Γ e loc g).frz with
    | .ok own d g1 => (match denO Γ ts r loc g1 with | .ok ds g2 => .ok ((own, d) :: ds) g2 | x => x)
    | .ex c fs g1 => .ex c fs g1
    | .bad => .bad := by (conv => lhs; unfold denO) <;> rfl
@[simp] theorem sG_nil : storeG Γ [] [] loc g = .nx loc g := rfl
@[simp] theorem sG_o {i : Nat} {ts : List TG'} {own : Bool} {d : D} {ds : List (Bool × D)} : storeG Γ (.o i :: ts) ((own, d) :: ds) loc g = storeG Γ ts ds (loc.set i (some (own, d))) g := by (conv => lhs; unfold storeG) <;> rfl
@[simp] theorem sG_t {t : T} {ts : List TG'} {d : D} {ds : List (Bool × D)} : storeG Γ (.t t :: ts) ((false, d) :: ds) loc g = match bindT t d loc with | some l => storeG Γ ts ds l g | none => .bad := by (conv => lhs; unfold storeG) <;> rfl
@[simp] theorem sG_p {i : Nat} {ix : E} {ts : List TG'} {own : Bool} {d : D} {ds : List (Bool × D)} : storeG Γ (.p i ix :: ts) ((own, d) :: ds) loc g = match ownL loc i with
    | some l => (den Γ ix loc g).st fun _ x g1 => match x with
      | .int k => match ixOf l.length k with | some n => storeG Γ ts ds (setL loc i (l.set n d)) g1 | none => .bad
      | _ => .bad
    | none => .bad := by (conv => lhs; unfold storeG) <;> rfl
@[simp] theorem own_eq {i : Nat} : ownL loc i = match loc[i]? with
  | some (some (true, .lst ds)) => some ds
  | _ => none := rfl
@[simp] theorem setL_eq {i : Nat} {ds : List D} : setL loc i ds = loc.set i (some (true, .lst ds)) := rfl
@[simp] theorem drw_eq {i : Nat} : drwAt loc g i = match loc[i]? with
  | some (some (false, .box n)) => (match g.bx[n]? with
    | some (.drw large rest cells turn) => some (n, large, rest, cells, turn)
    | _ => none)
  | _ => none := rfl
@[simp] theorem d_dg {i : Nat} {k : String} : den Γ (.dg i k) loc g = match drwAt loc g i with
    | some (_, large, rest, cells, turn) => if k = "rest" then .ok false (.int rest) g else if k = "turn" then .ok false (.int turn) g else if k = "cells" then .ok false (.lst (cells.map D.int)) g else .bad
    | none => .bad := by (conv => lhs; unfold den) <;> rfl
@[simp] theorem d_dne {i : Nat} : den Γ (.dne i) loc g = match drwAt loc g i with
    | some (_, large, rest, cells, turn) => (match cmpD .NotEq (.lst (large.map D.int)) (.lst []) with | some b => .ok false (.bl b) g | none => .bad)
    | none => .bad := by (conv => lhs; unfold den) <;> rfl
@[simp] theorem d_dpop {i : Nat} : den Γ (.dpop i) loc g = match drwAt loc g i with
    | some (n, z :: large, rest, cells, turn) => .ok false (.int z) ⟨g.bx.set n (.drw large rest cells turn)⟩
    | _ => .bad := by (conv => lhs; unfold den) <;> rfl
end
mutual
def nb : D → Bool
  | .non => true
  | .int _ => true
  | .str x => PyData.strOk x
  | .tup ds => nbs ds
  | .lst ds => nbs ds
  | _ => false
def nbs : List D → Bool
  | [] => true
  | d :: r => nb d && nbs r
end
mutual
def dpD : D → Nat
  | .tup ds => dpDs ds + 1
  | .lst ds => dpDs ds + 1
  | _ => 0
def dpDs : List D → Nat
  | [] => 0
  | d :: r => max (dpD d) (dpDs r)
end
mutual
theorem nb_py : ∀ d : D, nb d = true → ∃ p, d.toPy = some p ∧ p.canLay0 = true ∧ p.depth = dpD d
  | .non, _ => ⟨_, rfl, rfl, rfl⟩
  | .int i, _ => ⟨_, rfl, rfl, rfl⟩
  | .str x, h => ⟨_, rfl, by simpa [nb, PyData.canLay0] using h, rfl⟩
  | .tup ds, h => by
    obtain ⟨ps, e, c, k⟩ := nbs_py ds (by simpa [nb] using h)
    exact ⟨.tuple ps, by simp [D.toPy, e], by simpa [PyData.canLay0] using c, by simp [PyData.depth, dpD, k]⟩
  | .lst ds, h => by
    obtain ⟨ps, e, c, k⟩ := nbs_py ds (by simpa [nb] using h)
    exact ⟨.list ps, by simp [D.toPy, e], by simpa [PyData.canLay0] using c, by simp [PyData.depth, dpD, k]⟩
  | .bl _, h => by simp [nb] at h
  | .dic _, h => by simp [nb] at h
  | .ins _ _, h => by simp [nb] at h
  | .exc _ _, h => by simp [nb] at h
  | .fn _, h => by simp [nb] at h
  | .ty _, h => by simp [nb] at h
  | .clo _ _, h => by simp [nb] at h
  | .box _, h => by simp [nb] at h
  | .scr _, h => by simp [nb] at h
theorem nbs_py : ∀ ds : List D, nbs ds = true → ∃ ps, D.toPys ds = some ps ∧ PyData.canLayAll0 ps = true ∧ PyData.depthAll ps = dpDs ds
  | [], _ => ⟨[], rfl, rfl, rfl⟩
  | d :: r, h => by
    simp only [nbs, Bool.and_eq_true] at h
    obtain ⟨p, e, c, k⟩ := nb_py d h.1
    obtain ⟨ps, e2, c2, k2⟩ := nbs_py r h.2
    exact ⟨p :: ps, by simp [D.toPys, e, e2], by simp [PyData.canLayAll0, c, c2], by simp [PyData.depthAll, dpDs, k, k2]⟩
end
mutual
theorem py_inj : ∀ (a b : D) (p q : PyData), nb a = true → nb b = true → a.toPy = some p → b.toPy = some q → (PyData.eqv p q = true ↔ a = b)
  | .non, b, p, q, ha, hb, e, e2 => by
    cases e
    cases b <;> simp only [nb] at hb <;> simp only [D.toPy] at e2 <;> try (cases hb; done)
    all_goals first | (cases e2; simp [PyData.eqv]; done) | (split at e2 <;> cases e2; simp [PyData.eqv])
  | .int i, b, p, q, ha, hb, e, e2 => by
    cases e
    cases b <;> simp only [nb] at hb <;> simp only [D.toPy] at e2 <;> try (cases hb; done)
    all_goals first | (cases e2; simp [PyData.eqv]; done) | (split at e2 <;> cases e2; simp [PyData.eqv])
  | .str x, b, p, q, ha, hb, e, e2 => by
    cases e
    cases b <;> simp only [nb] at hb <;> simp only [D.toPy] at e2 <;> try (cases hb; done)
    all_goals first | (cases e2; simp [PyData.eqv]; done) | (split at e2 <;> cases e2; simp [PyData.eqv])
  | .tup ds, b, p, q, ha, hb, e, e2 => by
    obtain ⟨ps, e3, _, _⟩ := nbs_py ds (by simpa [nb] using ha)
    simp only [D.toPy, e3] at e
    cases e
    cases b with
    | tup ds2 =>
      obtain ⟨qs, e4, _, _⟩ := nbs_py ds2 (by simpa [nb] using hb)
      simp only [D.toPy, e4] at e2
      cases e2
      simp only [PyData.eqv, D.tup.injEq]
      exact pys_inj ds ds2 ps qs (by simpa [nb] using ha) (by simpa [nb] using hb) e3 e4
    | _ => first | (cases e2; simp [PyData.eqv]; done) | (simp [nb] at hb; done) | (simp only [D.toPy] at e2; split at e2 <;> cases e2; simp [PyData.eqv])
  | .lst ds, b, p, q, ha, hb, e, e2 => by
    obtain ⟨ps, e3, _, _⟩ := nbs_py ds (by simpa [nb] using ha)
    simp only [D.toPy, e3] at e
    cases e
    cases b with
    | lst ds2 =>
      obtain ⟨qs, e4, _, _⟩ := nbs_py ds2 (by simpa [nb] using hb)
      simp only [D.toPy, e4] at e2
      cases e2
      simp only [PyData.eqv, D.lst.injEq]
      exact pys_inj ds ds2 ps qs (by simpa [nb] using ha) (by simpa [nb] using hb) e3 e4
    | _ => first | (cases e2; simp [PyData.eqv]; done) | (simp [nb] at hb; done) | (simp only [D.toPy] at e2; split at e2 <;> cases e2; simp [PyData.eqv])
  | .bl _, _, _, _, h, _, _, _ => by simp [nb] at h
  | .dic _, _, _, _, h, _, _, _ => by simp [nb] at h
  | .ins _ _, _, _, _, h, _, _, _ => by simp [nb] at h
  | .exc _ _, _, _, _, h, _, _, _ => by simp [nb] at h
  | .fn _, _, _, _, h, _, _, _ => by simp [nb] at h
  | .ty _, _, _, _, h, _, _, _ => by simp [nb] at h
  | .clo _ _, _, _, _, h, _, _, _ => by simp [nb] at h
  | .box _, _, _, _, h, _, _, _ => by simp [nb] at h
  | .scr _, _, _, _, h, _, _, _ => by simp [nb] at h
theorem pys_inj : ∀ (a b : List D) (p q : List PyData), nbs a = true → nbs b = true → D.toPys a = some p → D.toPys b = some q → (PyData.eqvAll p q = true ↔ a = b)
  | [], [], p, q, ha, hb, e, e2 => by cases e; cases e2; simp [PyData.eqvAll]
  | [], b :: bs, p, q, ha, hb, e, e2 => by
    obtain ⟨ps, e3, _, _⟩ := nbs_py (b :: bs) hb
    cases e
    rw [e2] at e3
    cases e3
    simp only [D.toPys] at e2
    split at e2 <;> cases e2
    simp [PyData.eqvAll]
  | a :: as, [], p, q, ha, hb, e, e2 => by
    cases e2
    simp only [D.toPys] at e
    split at e <;> cases e
    simp [PyData.eqvAll]
  | a :: as, b :: bs, p, q, ha, hb, e, e2 => by
    simp only [nbs, Bool.and_eq_true] at ha hb
    simp only [D.toPys] at e e2
    split at e <;> cases e
    rename_i x xs e3 e4
    split at e2 <;> cases e2
    rename_i y ys e5 e6
    simp only [PyData.eqvAll, Bool.and_eq_true, List.cons.injEq]
    rw [py_inj a b x y ha.1 hb.1 e3 e5, pys_inj as bs xs ys ha.2 hb.2 e4 e6]
end
def okD (d : D) : Bool := nb d && decide (dpD d ≤ 64)
theorem okD_py {d : D} (h : okD d = true) : ∃ p, d.toPy = some p ∧ SeqAt.shaped p = true := by
  simp only [okD, Bool.and_eq_true, decide_eq_true_eq] at h
  obtain ⟨p, e, c, k⟩ := nb_py d h.1
  exact ⟨p, e, by unfold SeqAt.shaped; rw [c, k]; simpa using h.2⟩
open Classical in
theorem eqD_ok {a b : D} (ha : okD a = true) (hb : okD b = true) : eqD a b = some (decide (a = b)) := by
  obtain ⟨p, e, s⟩ := okD_py ha
  obtain ⟨q, e2, s2⟩ := okD_py hb
  unfold eqD
  simp only [e, e2, s, s2, Bool.and_self, if_true, Option.some.injEq]
  have ha' : nb a = true := by simp only [okD, Bool.and_eq_true] at ha; exact ha.1
  have hb' : nb b = true := by simp only [okD, Bool.and_eq_true] at hb; exact hb.1
  have := py_inj a b p q ha' hb' e e2
  by_cases c : a = b
  · simp [c, this.mpr c]
  · simp only [c, decide_false]
    cases z : PyData.eqv p q with
    | false => rfl
    | true => exact absurd (this.mp z) c
theorem eqD_self {a : D} (ha : okD a = true) : eqD a a = some true := by rw [eqD_ok ha ha]; simp
theorem eqD_ne {a b : D} (ha : okD a = true) (hb : okD b = true) (h : a ≠ b) : eqD a b = some false := by rw [eqD_ok ha hb]; simp [h]
def iN (l : List Nat) : List D := l.map fun k : Nat => D.int (k : Int)
@[simp] theorem iN_nil : iN [] = [] := rfl
@[simp] theorem iN_cons (a : Nat) (l : List Nat) : iN (a :: l) = .int a :: iN l := rfl
@[simp] theorem iN_append (a b : List Nat) : iN (a ++ b) = iN a ++ iN b := List.map_append
@[simp] theorem iN_length (l : List Nat) : (iN l).length = l.length := List.length_map ..
@[simp] theorem iN_rev (l : List Nat) : (iN l).reverse = iN l.reverse := (List.map_reverse ..).symm
theorem iN_inj {a b : List Nat} (h : iN a = iN b) : a = b := by
  refine List.map_inj_right (f := fun k : Nat => D.int (k : Int)) (fun x y h => ?_) |>.mp h
  have z : (x : Int) = y := by injection h
  exact Int.ofNat.inj z
@[simp] theorem iN_eq {a b : List Nat} : iN a = iN b ↔ a = b := ⟨iN_inj, fun h => by rw [h]⟩
theorem iN_get (l : List Nat) (i : Nat) : (iN l)[i]? = l[i]?.map fun k : Nat => D.int (k : Int) := List.getElem?_map ..
@[simp] theorem nbs_iN (l : List Nat) : nbs (iN l) = true := by induction l with
  | nil => rfl
  | cons a l ih => simp [nbs, nb, ih]
@[simp] theorem dpDs_iN (l : List Nat) : dpDs (iN l) = 0 := by induction l with
  | nil => rfl
  | cons a l ih => simp [dpDs, dpD, ih]
@[simp] theorem nbs_ints (l : List Int) : nbs (l.map D.int) = true := by induction l with
  | nil => rfl
  | cons a l ih => simp [nbs, nb, ih]
@[simp] theorem dpDs_ints (l : List Int) : dpDs (l.map D.int) = 0 := by induction l with
  | nil => rfl
  | cons a l ih => simp [dpDs, dpD, ih]
@[simp] theorem pys_iN (l : List Nat) : D.toPys (iN l) = some (l.map fun k : Nat => PyData.int k) := by induction l with
  | nil => rfl
  | cons a l ih => simp [D.toPys, D.toPy, ih]
theorem leD_int (i j : Int) : leD (.int i) (.int j) = decide (i ≤ j) := by
  unfold leD PySem.W.dataLe PySem.W.sortLe
  simp only [D.py, D.toPy, PySem.W.keyToks, cond_false]
  by_cases h : j < i <;> simp [PyProof.Rows.lexLt, PyProof.Rows.itemLt, h] <;> omega
end PyD
end
section
set_option Elab.async false
set_option linter.all false
set_option maxRecDepth 100000
set_option maxHeartbeats 1000000
namespace PyD
open PySem
theorem line_ok {n : Nat} (h : n ≤ 16777216) : n ≤ sizeLine := by rw [sizeLine_eq]; exact h
theorem line_lt {n : Nat} (h : n < 16777216) : n < sizeLine := by rw [sizeLine_eq]; exact h
theorem compD_map {f test : D → G → Res} {g : G} {h : D → D} : ∀ {ds : List D}, (∀ x ∈ ds, ∃ o, test x g = .ok o (.bl true) g) → (∀ x ∈ ds, ∃ o, f x g = .ok o (h x) g) → compD f test ds g = .ok (ds.map h) g
  | [], _, _ => rfl
  | x :: r, h1, h2 => by
    obtain ⟨o, e1⟩ := h1 x List.mem_cons_self
    obtain ⟨o2, e2⟩ := h2 x List.mem_cons_self
    unfold compD
    simp only [e1, truth, e2, compD_map (fun y hy => h1 y (List.mem_cons_of_mem _ hy)) (fun y hy => h2 y (List.mem_cons_of_mem _ hy)), List.map_cons]
/-- with a test -/
theorem compD_filter {f test : D → G → Res} {g : G} {p : D → Bool} {h : D → D} : ∀ {ds : List D}, (∀ x ∈ ds, ∃ o, test x g = .ok o (.bl (p x)) g) → (∀ x ∈ ds, p x = true → ∃ o, f x g = .ok o (h x) g) → compD f test ds g = .ok ((ds.filter p).map h) g
  | [], _, _ => rfl
  | x :: r, h1, h2 => by
    obtain ⟨o, e1⟩ := h1 x List.mem_cons_self
    have ih := compD_filter (f := f) (test := test) (h := h) (ds := r) (fun y hy => h1 y (List.mem_cons_of_mem _ hy)) (fun y hy => h2 y (List.mem_cons_of_mem _ hy))
    unfold compD
    cases c : p x with
    | true =>
      obtain ⟨o2, e2⟩ := h2 x List.mem_cons_self c
      rw [c] at e1
      simp only [e1, truth, e2, ih, List.filter_cons_of_pos c, List.map_cons]
    | false =>
      rw [c] at e1
      have : List.filter p (x :: r) = List.filter p r := List.filter_cons_of_neg (by simp [c])
      simp only [e1, truth, ih, this]
theorem loopD_inv {bind : D → Loc → Option Loc} {body : Loc → G → ResS} {P : List D → Loc → G → Prop} (h : ∀ x r loc g, P (x :: r) loc g → ∃ l l' g', bind x loc = some l ∧ body l g = .nx l' g' ∧ P r l' g') : ∀ {ds : List D} {loc : Loc} {g : G}, P ds loc g → ∃ l' g', loopD bind body ds loc g = .nx l' g' ∧ P [] l' g'
  | [], loc, g, p => ⟨loc, g, rfl, p⟩
  | x :: r, loc, g, p => by
    obtain ⟨l, l', g', e1, e2, p'⟩ := h x r loc g p
    obtain ⟨l2, g2, e3, p2⟩ := loopD_inv h p'
    exact ⟨l2, g2, by unfold loopD; simp only [e1, e2, e3], p2⟩
theorem whlD_inv {test : Loc → G → Res} {body : Loc → G → ResS} {P : Nat → Loc → G → Prop} {Q : Loc → G → Prop} (h : ∀ m loc g, P m loc g → (∃ o g1, test loc g = .ok o (.bl false) g1 ∧ Q loc g1) ∨ (∃ o g1 l' g' m', test loc g = .ok o (.bl true) g1 ∧ body loc g1 = .nx l' g' ∧ P m' l' g' ∧ m' < m)) : ∀ (n m : Nat) (loc : Loc) (g : G), m < n → P m loc g → ∃ l' g', whlD test body n loc g = .nx l' g' ∧ Q l' g' := by
  intro n
  induction n with
  | zero => intro m loc g hm; omega
  | succ n ih =>
    intro m loc g hm p
    rcases h m loc g p with ⟨o, g1, e, q⟩ | ⟨o, g1, l', g', m', e1, e2, p', hlt⟩
    · exact ⟨loc, g1, by unfold whlD; simp only [e, st_ok, truth], q⟩
    · obtain ⟨l2, g2, e3, q⟩ := ih m' l' g' (by omega) p'
      exact ⟨l2, g2, by unfold whlD; simp only [e1, st_ok, truth, e2, e3], q⟩
theorem loop_c {Γ : Env'} {t : T} {it : It} {a : List S} {loc : PyD.Loc} {g g1 : G} {ds : List D} {k : PyD.Loc → G → ResS} {C : ResS → Prop} (P : List D → PyD.Loc → G → Prop) (hi : denI Γ it loc g = .ok ds g1) (h0 : P ds loc g1)
    (step : ∀ x r loc g, P (x :: r) loc g → ∃ l l' g', bindT t x loc = some l ∧ exes Γ a l g = .nx l' g' ∧ P r l' g') (fin : ∀ l' g', P [] l' g' → C (k l' g')) : C ((exe Γ (.loop t it a) loc g).seq k) := by
  obtain ⟨l', g', e, hP⟩ := loopD_inv (bind := bindT t) (body := fun l g' => exes Γ a l g') step h0
  rw [x_loop, hi, stL_ok, e, seq_nx]
  exact fin l' g' hP
theorem loop_d {Γ : Env'} {t : T} {it : It} {a : List S} {loc : PyD.Loc} {g g1 : G} {ds : List D} {k : PyD.Loc → G → ResS} {C : ResS → Prop} (P : List D → PyD.Loc → G → Prop) (hi : denI Γ it loc g = .ok ds g1) (h0 : P ds loc g1)
    (step : ∀ x r loc g, P (x :: r) loc g → ∃ l, bindT t x loc = some l ∧ ∃ l' g', exes Γ a l g = .nx l' g' ∧ P r l' g') (fin : ∀ l' g', P [] l' g' → C (k l' g')) : C ((exe Γ (.loop t it a) loc g).seq k) :=
  loop_c P hi h0 (fun x r loc g p => let ⟨l, e, l', g', e2, q⟩ := step x r loc g p; ⟨l, l', g', e, e2, q⟩) fin
theorem whl_c {Γ : Env'} {t : E} {a : List S} {loc : PyD.Loc} {g : G} {m : Nat} {k : PyD.Loc → G → ResS} {C : ResS → Prop} (P : Nat → PyD.Loc → G → Prop) (Q : PyD.Loc → G → Prop) (hm : m < Γ.fuel) (h0 : P m loc g)
    (step : ∀ m loc g, P m loc g → (∃ o g1, den Γ t loc g = .ok o (.bl false) g1 ∧ Q loc g1) ∨ (∃ o g1 l' g' m', den Γ t loc g = .ok o (.bl true) g1 ∧ exes Γ a loc g1 = .nx l' g' ∧ P m' l' g' ∧ m' < m)) (fin : ∀ l' g', Q l' g' → C (k l' g')) : C ((exe Γ (.whl t a) loc g).seq k) := by
  obtain ⟨l', g', e, hQ⟩ := whlD_inv (test := fun l g' => den Γ t l g') (body := fun l g' => exes Γ a l g') step Γ.fuel m loc g hm h0
  rw [x_whl, e, seq_nx]
  exact fin l' g' hQ
theorem rngD_nat {n : Nat} (h : n < 2 ^ 62) : rngD [.int n] = some (iN (List.range n)) := by
  have e : small62 (n : Int) = true := by
    rw [small62_iff]
    omega
  simp only [rngD, e, if_true]
  simp [iN]
def srt (l : List Nat) : List Nat := l.mergeSort fun a b => decide (a ≤ b)
theorem srt_perm (l : List Nat) : (srt l).Perm l := List.mergeSort_perm _ _
theorem srt_range {l : List Nat} {n : Nat} : srt l = List.range n ↔ l.Perm (List.range n) := by
  constructor
  · intro h; rw [← h]; exact (srt_perm l).symm
  · intro h
    refine List.Perm.eq_of_pairwise (le := fun a b => a ≤ b) (fun a b _ _ h1 h2 => Nat.le_antisymm h1 h2) ?_ ?_ ((srt_perm l).trans h)
    · have := List.pairwise_mergeSort (le := fun a b : Nat => decide (a ≤ b)) (fun a b c h1 h2 => by simp only [decide_eq_true_eq] at *; omega) (fun a b => by simp only [Bool.or_eq_true, decide_eq_true_eq]; omega) l
      exact this.imp fun h => of_decide_eq_true h
    · exact List.pairwise_lt_range.imp fun h => Nat.le_of_lt h
theorem iN_srt (l : List Nat) : (iN l).mergeSort leD = iN (srt l) := by
  refine (List.map_mergeSort (r := fun a b : Nat => decide (a ≤ b)) (s := leD) (f := fun k : Nat => D.int (k : Int)) (fun a _ b _ => ?_)).symm
  rw [leD_int]
  simp
theorem sortable_iN (l : List Nat) : sortableB (l.map fun k : Nat => PyData.int (k : Int)) = true := by
  simp only [sortableB, Bool.and_eq_true, Bool.or_eq_true, List.all_map, List.all_eq_true, Function.comp]
  refine ⟨⟨fun a _ b _ => by simp [PySem.W.alike], .inr fun a _ => rfl⟩, fun a _ => by simp [PyData.depth]⟩
theorem bi_sorted {d : D} {l : List Nat} (h : d.items = some (iN l)) : biD "sorted" [d] = some (true, .lst (iN (srt l))) := by
  simp only [biD, h, pys_iN, sortable_iN, if_true, iN_srt]
@[simp] theorem eqD_int (i j : Int) : eqD (.int i) (.int j) = some (decide (i = j)) := by
  rw [eqD_ok rfl rfl]
  simp
@[simp] theorem bools_map {α : Type} (p : α → Bool) (l : List α) : D.bools (l.map fun d => D.bl (p d)) = some (l.map p) := by
  induction l with
  | nil => rfl
  | cons a l ih => simp [D.bools, ih]
@[simp] theorem box_get {α : Type} (l : List α) (x : α) : (l ++ [x])[l.length]? = some x := by simp
@[simp] theorem box_set {α : Type} (l : List α) (x y : α) : (l ++ [x]).set l.length y = l ++ [y] := by simp
@[simp] theorem boxFlat_app (l : List Ob) (x : Ob) : boxFlat (l ++ [x]) = (boxFlat l && boxFlat [x]) := by
  induction l with
  | nil => rfl
  | cons a l ih =>
    cases a <;> simp [boxFlat, ih, Bool.and_assoc]
@[simp] theorem noBoxs_iN (l : List Nat) : noBoxs (iN l) = true := by induction l with
  | nil => rfl
  | cons a l ih => simp [noBoxs, noBox, ih]
@[simp] theorem unbox_app {l : List Ob} {c : Str} {fs : List (Str × D)} {k : Ob → G → Res} (h1 : boxFlat l = true) (h2 : noBoxF fs = true) : unbox l.length ⟨l ++ [.ins c fs]⟩ k = k (.ins c fs) ⟨l⟩ := by
  unfold unbox
  simp [h1, h2, boxFlat]
@[simp] theorem noBoxF_nil : noBoxF [] = true := rfl
@[simp] theorem noBoxF_cons (f : Str) (d : D) (r : List (Str × D)) : noBoxF ((f, d) :: r) = (noBox d && noBoxF r) := rfl
@[simp] theorem noBox_tup (l : List D) : noBox (.tup l) = noBoxs l := rfl
@[simp] theorem noBox_int (i : Int) : noBox (.int i) = true := rfl
@[simp] theorem noBox_str (i : Str) : noBox (.str i) = true := rfl
@[simp] theorem noBox_non : noBox .non = true := rfl
theorem okD_iN {l : List Nat} : okD (.lst (iN l)) = true ∧ okD (.tup (iN l)) = true := by simp [okD, nb, dpD]
@[simp] theorem eqD_lN (a b : List Nat) : eqD (.lst (iN a)) (.lst (iN b)) = some (decide (a = b)) := by
  rw [eqD_ok okD_iN.1 okD_iN.1]
  simp
@[simp] theorem eqD_tN (a b : List Nat) : eqD (.tup (iN a)) (.tup (iN b)) = some (decide (a = b)) := by
  rw [eqD_ok okD_iN.2 okD_iN.2]
  simp
@[simp] theorem enuD_nil (k : Int) : enuD k [] = [] := rfl
theorem enu_step {p : List Nat} {i : Nat} {j : Int} {x : D} {r : List D} (h : x :: r = enuD j (iN (p.drop i))) : ∃ a, p[i]? = some a ∧ x = .tup [.int j, .int a] ∧ r = enuD (j + 1) (iN (p.drop (i + 1))) := by
  cases e : p.drop i with
  | nil => rw [e] at h; cases h
  | cons a l =>
    have hi : p[i]? = some a := by
      have := congrArg (fun z => z[0]?) e
      simpa [List.getElem?_drop] using this
    have hl : p.drop (i + 1) = l := by
      rw [← List.drop_drop, e]
      rfl
    rw [e] at h
    rw [iN_cons] at h
    unfold enuD at h
    injection h with h1 h2
    exact ⟨a, hi, h1, by rw [hl]; exact h2⟩
theorem enu_end {p : List Nat} {i : Nat} {j : Int} (h : [] = enuD j (iN (p.drop i))) : p.length ≤ i := by
  cases e : p.drop i with
  | nil => exact List.drop_eq_nil_iff.mp e
  | cons a l => rw [e, iN_cons] at h; unfold enuD at h; cases h
theorem iN_set (l : List Nat) (i v : Nat) : (iN l).set i (.int v) = iN (l.set i v) := by
  unfold iN
  rw [List.map_set]
@[simp] theorem ixOf_nat {n i : Nat} (h : i < n) : ixOf n (i : Int) = some i := by
  unfold ixOf L2.ixN
  rw [if_pos (by omega), if_pos (by omega)]
  simp
theorem idx_iN {d : D} {p : List Nat} {i v : Nat} (hd : d.items = some (iN p)) (h : p[i]? = some v) : idxD d (.int i) = some (.int v) := by
  unfold idxD
  rw [hd]
  exact L2.atI_nat (by rw [iN_get, h]; rfl)
/-- each letter once -/
def Rw (n : Nat) (p : List Nat) : Prop := p.Perm (List.range n)
theorem Rw.len {n : Nat} {p : List Nat} (h : Rw n p) : p.length = n := by rw [h.length_eq, List.length_range]
theorem Rw.nd {n : Nat} {p : List Nat} (h : Rw n p) : p.Nodup := h.nodup_iff.mpr List.nodup_range
theorem Rw.mem {n : Nat} {p : List Nat} (h : Rw n p) {x : Nat} : x ∈ p ↔ x < n := by rw [h.mem_iff, List.mem_range]
theorem nodup_le : ∀ {l m : List Nat}, l.Nodup → (∀ x ∈ l, x ∈ m) → l.length ≤ m.length
  | [], m, _, _ => Nat.zero_le _
  | a :: l, m, hn, hs => by
    obtain ⟨h1, h2⟩ := List.nodup_cons.mp hn
    have ha : a ∈ m := hs a List.mem_cons_self
    have := nodup_le (l := l) (m := m.erase a) h2 fun x hx => by
      have hne : x ≠ a := fun e => h1 (e ▸ hx)
      exact (List.mem_erase_of_ne hne).mpr (hs x (List.mem_cons_of_mem _ hx))
    rw [List.length_erase_of_mem ha] at this
    have hp : 0 < m.length := List.length_pos_of_mem ha
    simp only [List.length_cons]
    omega
theorem nodup_eq {l m : List Nat} (hl : l.Nodup) (hs : ∀ x ∈ l, x ∈ m) (hlen : m.length ≤ l.length) : ∀ x ∈ m, x ∈ l := by
  intro x hx
  by_cases h : x ∈ l
  · exact h
  · have := nodup_le (l := x :: l) (m := m) (List.nodup_cons.mpr ⟨h, hl⟩) fun y hy => by
      rcases List.mem_cons.mp hy with rfl | hy
      · exact hx
      · exact hs y hy
    simp only [List.length_cons] at this
    omega
theorem Rw.of {n : Nat} {p : List Nat} (hn : p.Nodup) (hl : p.length = n) (hm : ∀ x ∈ p, x < n) : Rw n p := by
  refine (List.perm_ext_iff_of_nodup hn List.nodup_range).mpr fun x => ⟨fun h => List.mem_range.mpr (hm x h), fun h => ?_⟩
  exact nodup_eq hn (fun y hy => List.mem_range.mpr (hm y hy)) (by rw [List.length_range, hl]; exact Nat.le_refl _) x h
theorem Rw.range (n : Nat) : Rw n (List.range n) := List.Perm.refl _
theorem Rw.rev {n : Nat} {p : List Nat} (h : Rw n p) : Rw n p.reverse := (List.reverse_perm p).trans h
theorem iN_erase : ∀ (p : List Nat) (r : Nat), (iN p).eraseIdx r = iN (p.eraseIdx r)
  | [], r => rfl
  | a :: p, 0 => rfl
  | a :: p, r + 1 => by simp [iN_erase p r]
theorem take_out : ∀ {p : List Nat} {r : Nat} (h : r < p.length), (p[r] :: p.eraseIdx r).Perm p
  | [], r, h => by simp at h
  | a :: p, 0, h => by simp
  | a :: p, r + 1, h => by
    have := take_out (p := p) (r := r) (by simpa using h)
    simp only [List.getElem_cons_succ, List.eraseIdx_cons_succ]
    exact (List.Perm.swap _ _ _).trans (this.cons a)
theorem findIdx_iN (k : Nat) : ∀ p : List Nat, k ∈ p → (p.map fun j : Nat => PyData.int (j : Int)).findIdx? (fun y => PyData.eqv y (.int (k : Int))) = some (p.idxOf k)
  | [], h => by cases h
  | a :: p, h => by
    by_cases e : a = k
    · subst e
      simp [List.findIdx?_cons, PyData.eqv]
    · have e2 : PyData.eqv (.int (a : Int)) (.int (k : Int)) = false := by simp [PyData.eqv]; omega
      have hk : k ∈ p := by
        rcases List.mem_cons.mp h with h | h
        · exact absurd h.symm e
        · exact h
      have ih := findIdx_iN k p hk
      have e4 : (a == k) = false := by simpa using e
      simp only [List.map_cons, List.findIdx?_cons, e2, ih, List.idxOf_cons, e4]
      simp
theorem index_iN {k : Nat} {p : List Nat} (h : k ∈ p) : indexOf (.int k) (iN p) = some (p.idxOf k) := by
  have e : lookD (.int k) (iN p) = some (PyData.int k, p.map fun j : Nat => PyData.int (j : Int)) := by
    unfold lookD
    simp only [D.toPy, pys_iN]
    have h1 : SeqAt.shaped (.int k) = true := by simp [SeqAt.shaped, PyData.canLay0, PyData.depth]
    obtain ⟨q, e1, e2⟩ := okD_py (okD_iN (l := p)).1
    have e3 : q = .list (p.map fun j : Nat => PyData.int (j : Int)) := by
      simp only [D.toPy, pys_iN] at e1
      exact (Option.some.inj e1).symm
    rw [e3] at e2
    rw [h1, e2]
    rfl
  unfold indexOf
  rw [e]
  exact findIdx_iN k p h
def srtZ (l : List Int) : List Int := l.mergeSort fun a b => decide (a ≤ b)
theorem srtZ_perm (l : List Int) : (srtZ l).Perm l := List.mergeSort_perm _ _
theorem ints_srtZ (l : List Int) : (l.map D.int).mergeSort leD = (srtZ l).map D.int := by
  refine (List.map_mergeSort (r := fun a b : Int => decide (a ≤ b)) (s := leD) (f := D.int) (fun a _ b _ => ?_)).symm
  rw [leD_int]
theorem pys_ints (l : List Int) : D.toPys (l.map D.int) = some (l.map PyData.int) := by induction l with
  | nil => rfl
  | cons a l ih => simp [D.toPys, D.toPy, ih]
theorem sortable_ints (l : List Int) : sortableB (l.map PyData.int) = true := by
  simp only [sortableB, Bool.and_eq_true, Bool.or_eq_true, List.all_map, List.all_eq_true, Function.comp]
  refine ⟨⟨fun a _ b _ => by simp [PySem.W.alike], .inr fun a _ => rfl⟩, fun a _ => by simp [PyData.depth]⟩
theorem bi_sortedZ {d : D} {l : List Int} (h : d.items = some (l.map D.int)) : biD "sorted" [d] = some (true, .lst ((srtZ l).map D.int)) := by
  simp only [biD, h, pys_ints, sortable_ints, if_true, ints_srtZ]
theorem iN_ints (p : List Nat) : iN p = (p.map fun k : Nat => (k : Int)).map D.int := by
  unfold iN
  rw [List.map_map]
  rfl
theorem ints_inj {a b : List Int} (h : a.map D.int = b.map D.int) : a = b := by
  refine (List.map_inj_right (f := D.int) fun x y h => ?_).mp h
  injection h
theorem srtZ_range {l : List Int} {n : Nat} : (srtZ l).map D.int = iN (List.range n) ↔ ∃ p : List Nat, p.Perm (List.range n) ∧ l.map D.int = iN p := by
  constructor
  · intro h
    rw [iN_ints] at h
    have e := ints_inj h
    have hp : l.Perm ((List.range n).map fun k : Nat => (k : Int)) := by rw [← e]; exact (srtZ_perm l).symm
    have hm : l = (l.map Int.toNat).map fun k : Nat => (k : Int) := by
      rw [List.map_map]
      refine (List.map_id l).symm.trans (List.map_congr_left fun x hx => ?_)
      obtain ⟨k, _, rfl⟩ := List.mem_map.mp (hp.mem_iff.mp hx)
      simp
    refine ⟨l.map Int.toNat, ?_, by rw [iN_ints, ← hm]⟩
    have := hp.map Int.toNat
    rw [List.map_map] at this
    refine this.trans ?_
    have : (List.range n).map (Int.toNat ∘ fun k : Nat => (k : Int)) = List.range n := by
      refine (List.map_congr_left fun x _ => ?_).trans (List.map_id _)
      simp
    rw [this]
  · rintro ⟨p, hp, e⟩
    rw [← ints_srtZ, e, iN_srt, srt_range.mpr hp]
open PySem.Spec PyProof.Rows L2 in
theorem sl_lo (l : List D) {k : Nat} (h : k ≤ l.length) : sliceL l (some (k : Int)) none = l.drop k := by
  unfold sliceL
  rw [HT.sIx_nat, HT.sIx_none, Nat.min_eq_left h, List.take_of_length_le (by rw [List.length_drop]; exact Nat.le_refl _)]
open PySem.Spec PyProof.Rows L2 in
theorem sl_hi (l : List D) {k : Nat} (h : k ≤ l.length) : sliceL l none (some (k : Int)) = l.take k := by
  unfold sliceL
  rw [HT.sIx_nat, HT.sIx_none, Nat.min_eq_left h, List.drop_zero, Nat.sub_zero]
open PySem.Spec PyProof.Rows L2 in
theorem sl_lohi (l : List D) {j k : Nat} (h : k ≤ l.length) (hj : j ≤ k) : sliceL l (some (j : Int)) (some (k : Int)) = (l.drop j).take (k - j) := by
  unfold sliceL
  rw [HT.sIx_nat, HT.sIx_nat, Nat.min_eq_left h, Nat.min_eq_left (Nat.le_trans hj h)]
open PySem.Spec PyProof.Rows L2 in
theorem sl_m1 (l : List D) (h : 1 ≤ l.length) : sliceL l none (some (-1)) = l.take (l.length - 1) := by
  have hs : HT.sIx l.length l.length (some (-1)) = l.length - 1 := by
    show (if (-1 : Int) < 0 then ((-1 : Int) + (l.length : Int)).toNat else min (-1 : Int).toNat l.length) = l.length - 1
    rw [if_pos (by omega)]
    omega
  unfold sliceL
  rw [hs, HT.sIx_none, List.drop_zero, Nat.sub_zero]
theorem iN_drop (p : List Nat) (k : Nat) : (iN p).drop k = iN (p.drop k) := by unfold iN; rw [List.map_drop]
theorem iN_take (p : List Nat) (k : Nat) : (iN p).take k = iN (p.take k) := by unfold iN; rw [List.map_take]
@[simp] theorem slc_l {l : List D} {a b : Option Int} : slcD (.lst l) a b = some (true, .lst (sliceL l a b)) := rfl
@[simp] theorem slc_t {l : List D} {a b : Option Int} : slcD (.tup l) a b = some (false, .tup (sliceL l a b)) := rfl
@[simp] theorem eqD_bl (a b : Bool) : eqD (.bl a) (.bl b) = some (a == b) := by cases a <;> cases b <;> rfl
end PyD
end
section
set_option Elab.async false
set_option linter.all false
set_option maxRecDepth 100000
set_option maxHeartbeats 1000000
namespace PyD
open PySem
def okS (t : Str) (c : Nat) : Prop := PyData.strOk t = true ∧ t.length ≤ c
theorem strOk_app (a b : Str) : PyData.strOk (a ++ b) = (PyData.strOk a && PyData.strOk b) := by
  show (a.cps ++ b.cps).all _ = _
  rw [Array.all_append]
  rfl
theorem len_app (a b : Str) : (a ++ b).length = a.length + b.length := by
  show (a.cps ++ b.cps).size = _
  rw [Array.size_append]
  rfl
theorem okS_app {a b : Str} {c d : Nat} (ha : okS a c) (hb : okS b d) : okS (a ++ b) (c + d) := ⟨by rw [strOk_app, ha.1, hb.1]; rfl, by rw [len_app]; have := ha.2; have := hb.2; omega⟩
theorem okS_mono {a : Str} {c d : Nat} (h : okS a c) (hd : c ≤ d) : okS a d := ⟨h.1, Nat.le_trans h.2 hd⟩
theorem okS_lit {a : Str} (h : (PyData.strOk a && decide (a.length ≤ 2)) = true) : okS a 2 := by
  simp only [Bool.and_eq_true, decide_eq_true_eq] at h
  exact h
theorem okS_join {c : Nat} : ∀ {ts : List Str}, (∀ t ∈ ts, okS t c) → okS (Str.join ", " ts) (ts.length * (c + 2))
  | [], _ => ⟨by unfold Str.join; decide +kernel, by unfold Str.join; exact Nat.zero_le _⟩
  | [x], h => okS_mono (h x (by simp)) (by simp)
  | x :: y :: r, h => by
    have h1 := okS_app (okS_app (h x (by simp)) (okS_lit (a := ", ") (by decide +kernel))) (okS_join (ts := y :: r) fun t ht => h t (List.mem_cons_of_mem _ ht))
    refine okS_mono h1 ?_
    simp only [List.length_cons, Nat.add_mul]
    omega
theorem okS_tuple {c : Nat} {ts : List Str} (h : ∀ t ∈ ts, okS t c) : okS (PySem.tupleText ts) (ts.length * (c + 2) + 4) := by
  unfold PySem.tupleText
  have h1 := okS_app (okS_app (okS_lit (a := "(") (by decide +kernel)) (okS_join h)) (d := 2) (b := ((if ts.length == 1 then ",)" else ")" : String) : Str)) (by split <;> exact okS_lit (by decide +kernel))
  exact okS_mono h1 (by omega)
theorem okS_from {c : Nat} : ∀ {ts : List Str} {k m : Nat} {acc : Str}, okS acc m → (∀ t ∈ ts, okS t c) → okS (PySem.textFrom k acc ts) (m + ts.length * (c + 2))
  | [], k, m, acc, ha, _ => okS_mono ha (by simp)
  | t :: r, k, m, acc, ha, h => by
    unfold PySem.textFrom
    have h1 := okS_app (okS_app ha (d := 2) (b := ((if k > 0 then ", " else "" : String) : Str)) (by split <;> exact okS_lit (by decide +kernel))) (h t (by simp))
    have h2 := okS_from (ts := r) (k := k + 1) h1 fun t ht => h t (List.mem_cons_of_mem _ ht)
    refine okS_mono h2 ?_
    simp only [List.length_cons, Nat.add_mul]
    omega
theorem okS_list {c : Nat} {ts : List Str} (h : ∀ t ∈ ts, okS t c) : okS (PySem.listText ts) (ts.length * (c + 2) + 4) := by
  unfold PySem.listText
  exact okS_mono (okS_app (okS_from (okS_lit (a := "[") (by decide +kernel)) h) (okS_lit (a := "]") (by decide +kernel))) (by omega)
theorem okS_digit {k : Nat} (h : k < 10) : okS (PyData.shown (.int (k : Int))) 2 := by
  have : k = 0 ∨ k = 1 ∨ k = 2 ∨ k = 3 ∨ k = 4 ∨ k = 5 ∨ k = 6 ∨ k = 7 ∨ k = 8 ∨ k = 9 := by omega
  rcases this with rfl | rfl | rfl | rfl | rfl | rfl | rfl | rfl | rfl | rfl <;> exact okS_lit (by decide +kernel)
/-- data that repr shows -/
def okR (p : PyData) (c : Nat) : Prop := p.showable = true ∧ p.hasDict = false ∧ okS p.shown c
theorem showAll : ∀ {ps : List PyData} {c : Nat}, (∀ p ∈ ps, okR p c) → PyData.showableAll ps = true ∧ PyData.hasDictAll ps = false ∧ ∀ t ∈ PyData.shownAll ps, okS t c
  | [], c, _ => ⟨rfl, rfl, fun t ht => by cases ht⟩
  | p :: ps, c, h => by
    obtain ⟨h1, h2, h3⟩ := showAll (ps := ps) fun q hq => h q (List.mem_cons_of_mem _ hq)
    obtain ⟨g1, g2, g3⟩ := h p List.mem_cons_self
    refine ⟨by simp [PyData.showableAll, g1, h1], by simp [PyData.hasDictAll, g2, h2], fun t ht => ?_⟩
    simp only [PyData.shownAll] at ht
    rcases List.mem_cons.mp ht with rfl | ht
    · exact g3
    · exact h3 t ht
theorem shownAll_len : ∀ ps : List PyData, (PyData.shownAll ps).length = ps.length
  | [] => rfl
  | p :: ps => by simp [PyData.shownAll, shownAll_len ps]
theorem okR_tuple {ps : List PyData} {c : Nat} (h : ∀ p ∈ ps, okR p c) : okR (.tuple ps) (ps.length * (c + 2) + 4) := by
  obtain ⟨h1, h2, h3⟩ := showAll h
  refine ⟨by simpa [PyData.showable] using h1, by simpa [PyData.hasDict] using h2, ?_⟩
  have := okS_tuple h3
  rw [shownAll_len] at this
  simpa [PyData.shown] using this
theorem okR_list {ps : List PyData} {c : Nat} (h : ∀ p ∈ ps, okR p c) : okR (.list ps) (ps.length * (c + 2) + 4) := by
  obtain ⟨h1, h2, h3⟩ := showAll h
  refine ⟨by simpa [PyData.showable] using h1, by simpa [PyData.hasDict] using h2, ?_⟩
  have := okS_list h3
  rw [shownAll_len] at this
  simpa [PyData.shown] using this
theorem okR_digit {k : Nat} (h : k < 10) : okR (.int (k : Int)) 2 := by
  refine ⟨?_, rfl, okS_digit h⟩
  have : k = 0 ∨ k = 1 ∨ k = 2 ∨ k = 3 ∨ k = 4 ∨ k = 5 ∨ k = 6 ∨ k = 7 ∨ k = 8 ∨ k = 9 := by omega
  rcases this with rfl | rfl | rfl | rfl | rfl | rfl | rfl | rfl | rfl | rfl <;> rfl
theorem okR_row {l : List Nat} (h : ∀ k ∈ l, k < 10) (hl : l.length ≤ 8) : okR (.tuple (l.map fun k : Nat => PyData.int (k : Int))) 36 := by
  have := okR_tuple (ps := l.map fun k : Nat => PyData.int (k : Int)) (c := 2) fun p hp => by
    obtain ⟨k, hk, rfl⟩ := List.mem_map.mp hp
    exact okR_digit (h k hk)
  refine ⟨this.1, this.2.1, okS_mono this.2.2 ?_⟩
  rw [List.length_map]
  omega
theorem repr_of {d : D} {p : PyData} {c : Nat} (h : d.toPy = some p) (hd : p.depth ≤ 64) (hr : okR p c) (hc : c ≤ 1000000) : ∃ t, biD "repr" [d] = some (false, .str t) ∧ eqD (.str t) (.str t) = some true := by
  refine ⟨p.shown, ?_, eqD_self (by simp [okD, nb, dpD, hr.2.2.1])⟩
  have h1 : p.shown.length ≤ 1000000 := Nat.le_trans hr.2.2.2 hc
  simp only [biD, h, hr.1, hr.2.1, hd, h1]
  simp
/-- two rows, as a tuple and as a list -/
theorem repr_two {a b : List Nat} (ha : ∀ k ∈ a, k < 10) (hb : ∀ k ∈ b, k < 10) (la : a.length ≤ 8) (lb : b.length ≤ 8) :
    (∃ t, biD "repr" [.tup [.tup (iN a), .tup (iN b)]] = some (false, .str t) ∧ eqD (.str t) (.str t) = some true) ∧ ∃ t, biD "repr" [.lst [.tup (iN a), .tup (iN b)]] = some (false, .str t) ∧ eqD (.str t) (.str t) = some true := by
  have h : ∀ p ∈ [PyData.tuple (a.map fun k : Nat => PyData.int (k : Int)), PyData.tuple (b.map fun k : Nat => PyData.int (k : Int))], okR p 36 := by
    intro p hp
    rcases List.mem_cons.mp hp with rfl | hp
    · exact okR_row ha la
    · rw [List.mem_singleton.mp hp]; exact okR_row hb lb
  have hd : ∀ l : List Nat, PyData.depthAll (l.map fun k : Nat => PyData.int (k : Int)) = 0 := fun l => by
    induction l with
    | nil => rfl
    | cons x l ih => simp [PyData.depthAll, PyData.depth, ih]
  refine ⟨repr_of (p := .tuple [PyData.tuple (a.map fun k : Nat => PyData.int (k : Int)), PyData.tuple (b.map fun k : Nat => PyData.int (k : Int))]) (by simp [D.toPy, D.toPys]) (by simp [PyData.depth, PyData.depthAll, hd]) (okR_tuple h) (by simp), repr_of (p := .list [PyData.tuple (a.map fun k : Nat => PyData.int (k : Int)), PyData.tuple (b.map fun k : Nat => PyData.int (k : Int))]) (by simp [D.toPy, D.toPys]) (by simp [PyData.depth, PyData.depthAll, hd]) (okR_list h) (by simp)⟩
end PyD
end
section
set_option Elab.async false
set_option linter.all false
set_option maxRecDepth 100000
set_option maxHeartbeats 4000000
namespace K03
open PySem PySem.Spec PyProof.Rows L2 He PyD
def top (i : Nat) : Stmt := sAt PySem.Challenge.pw_roomsled_k03_whole_shapes_and_turned_row.main.body i
def lamb0 : LamT := lamOf (("_law_refused" : Str) ++ (".<locals>." : Str) ++ ("<lambda>" : Str)) (eArg 0 (eArg 0 (eArg 0 (eArg 1 (sVal (sAt (sBody (sAt (sBody (top 44)) 2)) 2))))))
def lamb1 : LamT := lamOf (("_law_refused" : Str) ++ (".<locals>." : Str) ++ ("<lambda>" : Str)) (eArg 0 (sVal (sAt (sBody (top 44)) 6)))
def lamb2 : LamT := lamOf (("_law_refused" : Str) ++ (".<locals>." : Str) ++ ("<lambda>" : Str)) (eArg 1 (sVal (sAt (sBody (top 44)) 6)))
def lamb3 : LamT := lamOf (("_law_refused" : Str) ++ (".<locals>." : Str) ++ ("<lambda>" : Str)) (eArg 2 (sVal (sAt (sBody (top 44)) 6)))
def lamb4 : LamT := lamOf (("_law_refused" : Str) ++ (".<locals>." : Str) ++ ("<lambda>" : Str)) (eArg 3 (sVal (sAt (sBody (top 44)) 6)))
def lamb5 : LamT := lamOf (("_law_refused" : Str) ++ (".<locals>." : Str) ++ ("<lambda>" : Str)) (eArg 4 (sVal (sAt (sBody (top 44)) 6)))
def lamL : List LamT := [lamb0, lamb1, lamb2, lamb3, lamb4, lamb5]
def lamF : Nat → Option LamT := fun i => lamL[i]?
def kcN : Nat := 7
def kwL : List (Str × List (Nat × List Str)) := [("shape_of", [(0, (["row"] : List Str))]), ("row_of_shape", [(0, (["shape"] : List Str))]), ("renamed", [(0, (["letters", "row"] : List Str))]), ("turned_over", [(0, (["row"] : List Str))]), ("turned_about", [(0, (["row"] : List Str))]), ("is_shape", [(0, (["thing"] : List Str))])]
def kwT (x : Str) : List (Nat × List Str) := (kwL.lookup x).getD []
def fileN : Str := "/claim/cut.py"
def lamN : List Str := ["_law_refused"]
def q_is_number : FnQ := ⟨("is_number", none), "is_number", "is_number", defArgs (top 6), defBody (top 6), defScope (top 6), []⟩
def q_is_between : FnQ := ⟨("is_between", none), "is_between", "is_between", defArgs (top 7), defBody (top 7), defScope (top 7), []⟩
def q_is_list : FnQ := ⟨("is_list", none), "is_list", "is_list", defArgs (top 8), defBody (top 8), defScope (top 8), []⟩
def q_has_each : FnQ := ⟨("has_each", none), "has_each", "has_each", defArgs (top 12), defBody (top 12), defScope (top 12), []⟩
def q_RowD_initD : FnQ := ⟨("Row", some ("__init__" : Str)), "__init__", "Row.__init__", defArgs (clsAt (top 13) 0), defBody (clsAt (top 13) 0), defScope (clsAt (top 13) 0), []⟩
def q_RowD_eqD : FnQ := ⟨("Row", some ("__eq__" : Str)), "__eq__", "Row.__eq__", defArgs (clsAt (top 13) 1), defBody (clsAt (top 13) 1), defScope (clsAt (top 13) 1), []⟩
def q_need_row : FnQ := ⟨("need_row", none), "need_row", "need_row", defArgs (top 14), defBody (top 14), defScope (top 14), []⟩
def q_spots_told : FnQ := ⟨("spots_told", none), "spots_told", "spots_told", defArgs (top 16), defBody (top 16), defScope (top 16), []⟩
def q_parts_told : FnQ := ⟨("parts_told", none), "parts_told", "parts_told", defArgs (top 15), defBody (top 15), defScope (top 15), []⟩
def q_is_whole : FnQ := ⟨("is_whole", none), "is_whole", "is_whole", defArgs (top 17), defBody (top 17), defScope (top 17), []⟩
def q_is_shape : FnQ := ⟨("is_shape", none), "is_shape", "is_shape", defArgs (top 19), defBody (top 19), defScope (top 19), []⟩
def q_need_shape : FnQ := ⟨("need_shape", none), "need_shape", "need_shape", defArgs (top 20), defBody (top 20), defScope (top 20), []⟩
def q_told_shape : FnQ := ⟨("told_shape", none), "told_shape", "told_shape", defArgs (top 21), defBody (top 21), defScope (top 21), []⟩
def q_shape_of : FnQ := ⟨("shape_of", none), "shape_of", "shape_of", defArgs (top 22), defBody (top 22), defScope (top 22), []⟩
def q_row_of_shape : FnQ := ⟨("row_of_shape", none), "row_of_shape", "row_of_shape", defArgs (top 23), defBody (top 23), defScope (top 23), []⟩
def q_renamed : FnQ := ⟨("renamed", none), "renamed", "renamed", defArgs (top 24), defBody (top 24), defScope (top 24), []⟩
def q_turned_over : FnQ := ⟨("turned_over", none), "turned_over", "turned_over", defArgs (top 26), defBody (top 26), defScope (top 26), []⟩
def q_turned_about : FnQ := ⟨("turned_about", none), "turned_about", "turned_about", defArgs (top 27), defBody (top 27), defScope (top 27), []⟩
def q__law_begun : FnQ := ⟨("_law_begun", none), "_law_begun", "_law_begun", defArgs (top 29), defBody (top 29), defScope (top 29), []⟩
def q__law_mixed : FnQ := ⟨("_law_mixed", none), "_law_mixed", "_law_mixed", defArgs (top 30), defBody (top 30), defScope (top 30), []⟩
def q__law_take : FnQ := ⟨("_law_take", none), "_law_take", "_law_take", defArgs (top 31), defBody (top 31), defScope (top 31), []⟩
def q__law_pick : FnQ := ⟨("_law_pick", none), "_law_pick", "_law_pick", defArgs (top 32), defBody (top 32), defScope (top 32), []⟩
def q__law_shuffled : FnQ := ⟨("_law_shuffled", none), "_law_shuffled", "_law_shuffled", defArgs (top 33), defBody (top 33), defScope (top 33), []⟩
def q__law_caught : FnQ := ⟨("_law_caught", none), "_law_caught", "_law_caught", defArgs (top 34), defBody (top 34), defScope (top 34), []⟩
def q__law_says : FnQ := ⟨("_law_says", none), "_law_says", "_law_says", defArgs (top 35), defBody (top 35), defScope (top 35), []⟩
def q__law_is_number : FnQ := ⟨("_law_is_number", none), "_law_is_number", "_law_is_number", defArgs (top 36), defBody (top 36), defScope (top 36), []⟩
def q__law_pair : FnQ := ⟨("_law_pair", none), "_law_pair", "_law_pair", defArgs (top 37), defBody (top 37), defScope (top 37), []⟩
def q__law_shape : FnQ := ⟨("_law_shape", none), "_law_shape", "_law_shape", defArgs (top 38), defBody (top 38), defScope (top 38), []⟩
def q__law_word : FnQ := ⟨("_law_word", none), "_law_word", "_law_word", defArgs (top 39), defBody (top 39), defScope (top 39), []⟩
def q__law_is_shape : FnQ := ⟨("_law_is_shape", none), "_law_is_shape", "_law_is_shape", defArgs (top 40), defBody (top 40), defScope (top 40), []⟩
def q__law_pair_of : FnQ := ⟨("_law_pair_of", none), "_law_pair_of", "_law_pair_of", defArgs (top 41), defBody (top 41), defScope (top 41), []⟩
def q__law_right : FnQ := ⟨("_law_right", none), "_law_right", "_law_right", defArgs (top 42), defBody (top 42), defScope (top 42), []⟩
def q__law_like_right : FnQ := ⟨("_law_like_right", none), "_law_like_right", "_law_like_right", defArgs (top 43), defBody (top 43), defScope (top 43), []⟩
def q__law_refused : FnQ := ⟨("_law_refused", none), "_law_refused", "_law_refused", defArgs (top 44), defBody (top 44), defScope (top 44), []⟩
def q_law : FnQ := ⟨("law", none), "law", "law", defArgs (top 45), defBody (top 45), defScope (top 45), []⟩
def q_BadRowD_initD : FnQ := ⟨("BadRow", some ("__init__" : Str)), "__init__", "BadRow.__init__", defArgs (clsAt (top 2) 0), defBody (clsAt (top 2) 0), defScope (clsAt (top 2) 0), [("__class__" : Str)]⟩
def fnL : List FnQ := [q_is_number, q_is_between, q_is_list, q_has_each, q_RowD_initD, q_RowD_eqD, q_need_row, q_spots_told, q_parts_told, q_is_whole, q_is_shape, q_need_shape, q_told_shape, q_shape_of, q_row_of_shape, q_renamed, q_turned_over, q_turned_about, q__law_begun, q__law_mixed, q__law_take, q__law_pick, q__law_shuffled, q__law_caught, q__law_says, q__law_is_number, q__law_pair, q__law_shape, q__law_word, q__law_is_shape, q__law_pair_of, q__law_right, q__law_like_right, q__law_refused, q_law, q_BadRowD_initD]
def faL : List FaP := [.he (.glo "Row"),
  .he (.glo "BadRow"),
  .he (.glo "BadShape"),
  .he (.glo "BadLetters"),
  .he (.glo "turned_over"),
  .he (.glo "turned_about"),
  .he (.glo "RowError"),
  .he (.glo "is_number"),
  .he (.glo "is_between"),
  .he (.glo "is_list"),
  .he (.glo "has_each"),
  .he (.glo "need_row"),
  .he (.glo "spots_told"),
  .he (.glo "parts_told"),
  .he (.glo "is_whole"),
  .he (.glo "is_shape"),
  .he (.glo "need_shape"),
  .he (.glo "told_shape"),
  .he (.glo "shape_of"),
  .he (.glo "row_of_shape"),
  .he (.glo "renamed"),
  .he (.glo "_law_begun"),
  .he (.glo "_law_mixed"),
  .he (.glo "_law_take"),
  .he (.glo "_law_pick"),
  .he (.glo "_law_shuffled"),
  .he (.glo "_law_caught"),
  .he (.glo "_law_says"),
  .he (.glo "_law_is_number"),
  .he (.glo "_law_pair"),
  .he (.glo "_law_shape"),
  .he (.glo "_law_word"),
  .he (.glo "_law_is_shape"),
  .he (.glo "_law_pair_of"),
  .he (.glo "_law_right"),
  .he (.glo "_law_like_right"),
  .he (.glo "_law_refused"),
  .he (.glo "law"),
  .he (.free "int"),
  .he (.free "isinstance"),
  .he (.free "bool"),
  .he (.free "list"),
  .he (.free "tuple"),
  .he (.free "len"),
  .he (.free "all"),
  .he (.free "sorted"),
  .he (.free "range"),
  .he (.free "enumerate"),
  .he (.free "max"),
  .he (.free "abs"),
  .he (.free "repr"),
  .he (.free "zip"),
  .he (.free "str"),
  .he (.free "min"),
  .he (.free "super"),
  .he (.int "LEAST_LETTERS" 2),
  .he (.int "MOST_LETTERS" 8),
  .he (.mkr "Row"),
  .he (.cls "Row"),
  .he (.noat "Row" "above"),
  .he (.noat "Row" "below"),
  .sup "BadRow" "part",
  .he (.exc "BadShape"),
  .he (.exc "BadLetters"),
  .he (.exm "BadRow" "RowError" true),
  .he (.exm "BadShape" "RowError" true),
  .he (.exm "BadLetters" "RowError" true),
  .insc "Row",
  .errc "BadRow",
  .errc "BadShape",
  .errc "BadLetters",
  .xget "BadRow" "part",
  .kit "Row" "Row" true,
  .kit "Row" "BadRow" false,
  .kit "Row" "BadShape" false,
  .kit "Row" "BadLetters" false,
  .kit "BadRow" "Row" false,
  .kit "BadShape" "Row" false,
  .kit "BadLetters" "Row" false,
  .kit "BadRow" "BadRow" true,
  .kit "BadShape" "BadRow" false,
  .kit "BadLetters" "BadRow" false,
  .kit "BadRow" "BadShape" false,
  .kit "BadShape" "BadShape" true,
  .kit "BadLetters" "BadShape" false,
  .kit "BadRow" "BadLetters" false,
  .kit "BadShape" "BadLetters" false,
  .kit "BadLetters" "BadLetters" true,
  .kitT "Row",
  .kitT "BadRow",
  .kitT "BadShape",
  .kitT "BadLetters",
  .eqc "Row"]
def fieL : List (Str × Str) := [("Row", "above"), ("Row", "below")]
def xfiL : List (Str × Str) := [("BadRow", "part")]
def belL : List ((Str × Str) × Bool) := [(("Row", "Row"), true), (("Row", "BadRow"), false), (("Row", "BadShape"), false), (("Row", "BadLetters"), false)]
def xbeL : List ((Str × Str) × Bool) := [(("BadRow", "Row"), false), (("BadShape", "Row"), false), (("BadLetters", "Row"), false), (("BadRow", "BadRow"), true), (("BadShape", "BadRow"), false), (("BadLetters", "BadRow"), false), (("BadRow", "BadShape"), false), (("BadShape", "BadShape"), true), (("BadLetters", "BadShape"), false), (("BadRow", "BadLetters"), false), (("BadShape", "BadLetters"), false), (("BadLetters", "BadLetters"), true)]
def errL : List Str := ["BadRow", "BadShape", "BadLetters"]
def parL : List (Str × List Str) := [("turned_over", ["row"]), ("turned_about", ["row"])]
def G0 (ct : CloT) : Env' := { fn := fun _ _ _ _ => .bad, mkc := fun _ _ _ _ => .bad, clo := ct, mine := [], caps := fun _ => [], lamD := fun _ _ _ _ => .bad, capS := fun _ => [], qual := "", par := fun x => (parL.lookup x).getD [], vals := [], eqs := [], errs := errL, fuel := 1000000000, below := lk2 belL, belowX := lk2 xbeL, field := fun c f => fieL.contains (c, f), xfield := fun c f => xfiL.contains (c, f) }
abbrev FX (R : RC) (T : Tab) (tt : List (Addr × Addr)) (h : Heap) : Prop := Fx R T fileN lamN faL fnL lamF kcN kwT tt h
section
variable {R : RC} {T : Tab} {tt : List (Addr × Addr)} {h : Heap} (F : FX R T tt h)
include F
theorem g_Row : R.mg "Row" = some (.ref (ga R.K "Row")) := F.glo (by decide +kernel)
theorem g_BadRow : R.mg "BadRow" = some (.ref (ga R.K "BadRow")) := F.glo (by decide +kernel)
theorem g_BadShape : R.mg "BadShape" = some (.ref (ga R.K "BadShape")) := F.glo (by decide +kernel)
theorem g_BadLetters : R.mg "BadLetters" = some (.ref (ga R.K "BadLetters")) := F.glo (by decide +kernel)
theorem g_turned_over : R.mg "turned_over" = some (.ref (ga R.K "turned_over")) := F.glo (by decide +kernel)
theorem g_turned_about : R.mg "turned_about" = some (.ref (ga R.K "turned_about")) := F.glo (by decide +kernel)
theorem g_RowError : R.mg "RowError" = some (.ref (ga R.K "RowError")) := F.glo (by decide +kernel)
theorem g_is_number : R.mg "is_number" = some (.ref (ga R.K "is_number")) := F.glo (by decide +kernel)
theorem g_is_between : R.mg "is_between" = some (.ref (ga R.K "is_between")) := F.glo (by decide +kernel)
theorem g_is_list : R.mg "is_list" = some (.ref (ga R.K "is_list")) := F.glo (by decide +kernel)
theorem g_has_each : R.mg "has_each" = some (.ref (ga R.K "has_each")) := F.glo (by decide +kernel)
theorem g_need_row : R.mg "need_row" = some (.ref (ga R.K "need_row")) := F.glo (by decide +kernel)
theorem g_spots_told : R.mg "spots_told" = some (.ref (ga R.K "spots_told")) := F.glo (by decide +kernel)
theorem g_parts_told : R.mg "parts_told" = some (.ref (ga R.K "parts_told")) := F.glo (by decide +kernel)
theorem g_is_whole : R.mg "is_whole" = some (.ref (ga R.K "is_whole")) := F.glo (by decide +kernel)
theorem g_is_shape : R.mg "is_shape" = some (.ref (ga R.K "is_shape")) := F.glo (by decide +kernel)
theorem g_need_shape : R.mg "need_shape" = some (.ref (ga R.K "need_shape")) := F.glo (by decide +kernel)
theorem g_told_shape : R.mg "told_shape" = some (.ref (ga R.K "told_shape")) := F.glo (by decide +kernel)
theorem g_shape_of : R.mg "shape_of" = some (.ref (ga R.K "shape_of")) := F.glo (by decide +kernel)
theorem g_row_of_shape : R.mg "row_of_shape" = some (.ref (ga R.K "row_of_shape")) := F.glo (by decide +kernel)
theorem g_renamed : R.mg "renamed" = some (.ref (ga R.K "renamed")) := F.glo (by decide +kernel)
theorem g__law_begun : R.mg "_law_begun" = some (.ref (ga R.K "_law_begun")) := F.glo (by decide +kernel)
theorem g__law_mixed : R.mg "_law_mixed" = some (.ref (ga R.K "_law_mixed")) := F.glo (by decide +kernel)
theorem g__law_take : R.mg "_law_take" = some (.ref (ga R.K "_law_take")) := F.glo (by decide +kernel)
theorem g__law_pick : R.mg "_law_pick" = some (.ref (ga R.K "_law_pick")) := F.glo (by decide +kernel)
theorem g__law_shuffled : R.mg "_law_shuffled" = some (.ref (ga R.K "_law_shuffled")) := F.glo (by decide +kernel)
theorem g__law_caught : R.mg "_law_caught" = some (.ref (ga R.K "_law_caught")) := F.glo (by decide +kernel)
theorem g__law_says : R.mg "_law_says" = some (.ref (ga R.K "_law_says")) := F.glo (by decide +kernel)
theorem g__law_is_number : R.mg "_law_is_number" = some (.ref (ga R.K "_law_is_number")) := F.glo (by decide +kernel)
theorem g__law_pair : R.mg "_law_pair" = some (.ref (ga R.K "_law_pair")) := F.glo (by decide +kernel)
theorem g__law_shape : R.mg "_law_shape" = some (.ref (ga R.K "_law_shape")) := F.glo (by decide +kernel)
theorem g__law_word : R.mg "_law_word" = some (.ref (ga R.K "_law_word")) := F.glo (by decide +kernel)
theorem g__law_is_shape : R.mg "_law_is_shape" = some (.ref (ga R.K "_law_is_shape")) := F.glo (by decide +kernel)
theorem g__law_pair_of : R.mg "_law_pair_of" = some (.ref (ga R.K "_law_pair_of")) := F.glo (by decide +kernel)
theorem g__law_right : R.mg "_law_right" = some (.ref (ga R.K "_law_right")) := F.glo (by decide +kernel)
theorem g__law_like_right : R.mg "_law_like_right" = some (.ref (ga R.K "_law_like_right")) := F.glo (by decide +kernel)
theorem g__law_refused : R.mg "_law_refused" = some (.ref (ga R.K "_law_refused")) := F.glo (by decide +kernel)
theorem g_law : R.mg "law" = some (.ref (ga R.K "law")) := F.glo (by decide +kernel)
theorem n_int : R.mg "int" = none := F.free (by decide +kernel)
theorem n_isinstance : R.mg "isinstance" = none := F.free (by decide +kernel)
theorem n_bool : R.mg "bool" = none := F.free (by decide +kernel)
theorem n_list : R.mg "list" = none := F.free (by decide +kernel)
theorem n_tuple : R.mg "tuple" = none := F.free (by decide +kernel)
theorem n_len : R.mg "len" = none := F.free (by decide +kernel)
theorem n_all : R.mg "all" = none := F.free (by decide +kernel)
theorem n_sorted : R.mg "sorted" = none := F.free (by decide +kernel)
theorem n_range : R.mg "range" = none := F.free (by decide +kernel)
theorem n_enumerate : R.mg "enumerate" = none := F.free (by decide +kernel)
theorem n_max : R.mg "max" = none := F.free (by decide +kernel)
theorem n_abs : R.mg "abs" = none := F.free (by decide +kernel)
theorem n_repr : R.mg "repr" = none := F.free (by decide +kernel)
theorem n_zip : R.mg "zip" = none := F.free (by decide +kernel)
theorem n_str : R.mg "str" = none := F.free (by decide +kernel)
theorem n_min : R.mg "min" = none := F.free (by decide +kernel)
theorem n_super : R.mg "super" = none := F.free (by decide +kernel)
theorem i_LEAST_LETTERS : ∃ t, R.mg "LEAST_LETTERS" = some (.int 2 t) := F.int (by decide +kernel)
theorem i_MOST_LETTERS : ∃ t, R.mg "MOST_LETTERS" = some (.int 8 t) := F.int (by decide +kernel)
theorem e_BadRow : Exc1 R "BadRow" "part" := F.exc1 (d := q_BadRowD_initD) (List.mem_of_getElem? (i := 35) rfl) (by decide +kernel) (by decide +kernel) (by decide +kernel) ⟨rfl, rfl⟩ ⟨_, _, _, _, _, _, _, _, _, _, _, _, _, _, rfl, rfl, rfl, rfl, rfl⟩ (fun _ _ _ _ _ _ _ _ _ => rfl)
theorem e_BadShape : Exc0 R "BadShape" := F.exc0 (by decide +kernel) (by decide +kernel)
theorem e_BadLetters : Exc0 R "BadLetters" := F.exc0 (by decide +kernel) (by decide +kernel)
theorem errs_RowError : ErrsOk R "RowError" errL := F.errs (by decide +kernel) (by decide +kernel)
theorem fld_ (f : Str) : ∀ c C, fieL.contains (c, f) = true → R.mg c = some (.ref C) → Cls R.K C ∧ NoAttr R.K C f := F.fields (by decide +kernel) f
theorem xfld_ (f : Str) : ∀ c C, xfiL.contains (c, f) = true → R.mg c = some (.ref C) → XGet R C f := F.xfields (by decide +kernel) f
theorem isc_Row {Γ : Env'} (h1 : Γ.below = lk2 belL) (h2 : Γ.belowX = lk2 xbeL) : IscK R Γ "Row" (ga R.K "Row") := F.isc h1 h2 (by decide +kernel) (by decide +kernel) (by decide +kernel)
theorem isc_BadRow {Γ : Env'} (h1 : Γ.below = lk2 belL) (h2 : Γ.belowX = lk2 xbeL) : IscK R Γ "BadRow" (ga R.K "BadRow") := F.isc h1 h2 (by decide +kernel) (by decide +kernel) (by decide +kernel)
theorem isc_BadShape {Γ : Env'} (h1 : Γ.below = lk2 belL) (h2 : Γ.belowX = lk2 xbeL) : IscK R Γ "BadShape" (ga R.K "BadShape") := F.isc h1 h2 (by decide +kernel) (by decide +kernel) (by decide +kernel)
theorem isc_BadLetters {Γ : Env'} (h1 : Γ.below = lk2 belL) (h2 : Γ.belowX = lk2 xbeL) : IscK R Γ "BadLetters" (ga R.K "BadLetters") := F.isc h1 h2 (by decide +kernel) (by decide +kernel) (by decide +kernel)
end
def f_is_number : Def := ⟨1, 1,
  [(.ret (.and (.bi "isinstance" [(.b 0), (.bty "int")]) (.not (.bi "isinstance" [(.b 0), (.bty "bool")]))))]⟩
noncomputable def Γ_is_number (ct : CloT) : Env' := G0 ct
noncomputable def F_is_number (ct : CloT) (ds : List D) (g : G) : Res := f_is_number.run (Γ_is_number ct) ds g
def N_is_number : List Str := ["thing"]
theorem sc_is_number : FnScope N_is_number ["thing"] (defScope (top 6)) := ⟨rfl, rfl, rfl, (by decide +kernel), rfl, (by decide +kernel), (by decide +kernel)⟩
section
variable {R : RC} {T : Tab} {tt : List (Addr × Addr)} {h : Heap} (F : FX R T tt h)
include F
theorem s_is_number (ct : CloT) : SndSs R T ⟨N_is_number, defScope (top 6), 0, true⟩ (Γ_is_number ct) (defBody (top 6)) f_is_number.body :=
  (.cons
  (.ret (SndE.and (SndE.bi rfl (by decide +kernel) (n_isinstance F) bo_isinstance (.cons (.b (by decide +kernel)) (.cons (.e (SndE.bty (by decide +kernel) (n_int F) bo_int) rfl) SndA.nil))) (SndE.one (SndE.not (SndE.bi rfl (by decide +kernel) (n_isinstance F) bo_isinstance (.cons (.b (by decide +kernel)) (.cons (.e (SndE.bty (by decide +kernel) (n_bool F) bo_bool) rfl) SndA.nil))))))) SndSs.nil)
theorem ok_is_number : FnS R T 1 "is_number" ["thing"] F_is_number := F.fnS (d := q_is_number) (Γ := Γ_is_number) (t := f_is_number.body) (List.mem_of_getElem? (i := 0) rfl) (by decide +kernel) ⟨rfl, rfl, rfl⟩ sc_is_number (fun _ _ _ _ _ _ us hl => match us, hl with | [_], _ => rfl) (fun _ _ _ _ _ _ => kwN (by kernel_rfl)) (fun _ _ _ h => if_pos h) (s_is_number F) (fun _ => rfl) fun _ => rfl
end
def f_is_between : Def := ⟨3, 3,
  [(.ret (.and (.call "is_number" [(.v 0)] []) (.chn .LtE .LtE (.v 1) (.v 0) (.v 2))))]⟩
noncomputable def Γ_is_between (ct : CloT) : Env' := { G0 ct with fn := (fun f => if f = "is_number" then F_is_number else fun _ _ _ => .bad) }
noncomputable def F_is_between (ct : CloT) (ds : List D) (g : G) : Res := f_is_between.run (Γ_is_between ct) ds g
def N_is_between : List Str := ["thing", "low", "high"]
theorem sc_is_between : FnScope N_is_between ["thing", "low", "high"] (defScope (top 7)) := ⟨rfl, rfl, rfl, (by decide +kernel), rfl, (by decide +kernel), (by decide +kernel)⟩
section
variable {R : RC} {T : Tab} {tt : List (Addr × Addr)} {h : Heap} (F : FX R T tt h)
include F
theorem s_is_between (ct : CloT) : SndSs R T ⟨N_is_between, defScope (top 7), 1, true⟩ (Γ_is_between ct) (defBody (top 7)) f_is_between.body :=
  (.cons
  (.ret (SndE.and (SndE.call (ok_is_number F) (by kernel_rfl) (by decide +kernel) rfl (by decide +kernel) (.cons (.e (SndE.v (by decide +kernel)) rfl) SndA.nil)) (SndE.one (SndE.chn (SndE.v (by decide +kernel)) (SndE.v (by decide +kernel)) (SndE.v (by decide +kernel)))))) SndSs.nil)
theorem ok_is_between : FnS R T 2 "is_between" ["thing", "low", "high"] F_is_between := F.fnS (d := q_is_between) (Γ := Γ_is_between) (t := f_is_between.body) (List.mem_of_getElem? (i := 1) rfl) (by decide +kernel) ⟨rfl, rfl, rfl⟩ sc_is_between (fun _ _ _ _ _ _ us hl => match us, hl with | [_, _, _], _ => rfl) (fun _ _ _ _ _ _ => kwN (by kernel_rfl)) (fun _ _ _ h => if_pos h) (s_is_between F) (fun _ => rfl) fun _ => rfl
end
def f_is_list : Def := ⟨1, 1,
  [(.ret (.bi "isinstance" [(.b 0), (.tup [(.bty "list"), (.bty "tuple")])]))]⟩
noncomputable def Γ_is_list (ct : CloT) : Env' := G0 ct
noncomputable def F_is_list (ct : CloT) (ds : List D) (g : G) : Res := f_is_list.run (Γ_is_list ct) ds g
def N_is_list : List Str := ["thing"]
theorem sc_is_list : FnScope N_is_list ["thing"] (defScope (top 8)) := ⟨rfl, rfl, rfl, (by decide +kernel), rfl, (by decide +kernel), (by decide +kernel)⟩
section
variable {R : RC} {T : Tab} {tt : List (Addr × Addr)} {h : Heap} (F : FX R T tt h)
include F
theorem s_is_list (ct : CloT) : SndSs R T ⟨N_is_list, defScope (top 8), 0, true⟩ (Γ_is_list ct) (defBody (top 8)) f_is_list.body :=
  (.cons
  (.ret (SndE.bi rfl (by decide +kernel) (n_isinstance F) bo_isinstance (.cons (.b (by decide +kernel)) (.cons (.e (SndE.tup (.cons (SndE.bty (by decide +kernel) (n_list F) bo_list) (.cons (SndE.bty (by decide +kernel) (n_tuple F) bo_tuple) SndD.nil))) rfl) SndA.nil)))) SndSs.nil)
theorem ok_is_list : FnS R T 1 "is_list" ["thing"] F_is_list := F.fnS (d := q_is_list) (Γ := Γ_is_list) (t := f_is_list.body) (List.mem_of_getElem? (i := 2) rfl) (by decide +kernel) ⟨rfl, rfl, rfl⟩ sc_is_list (fun _ _ _ _ _ _ us hl => match us, hl with | [_], _ => rfl) (fun _ _ _ _ _ _ => kwN (by kernel_rfl)) (fun _ _ _ h => if_pos h) (s_is_list F) (fun _ => rfl) fun _ => rfl
end
def f_has_each : Def := ⟨2, 3,
  [(.ite (.or (.cmp .NotEq (.bi "len" [(.b 0)]) (.b 1)) (.not (.bi "all" [(.comp (.call "is_between" [(.v 2), (.c (.int 0)), (.bin .Sub (.b 1) (.c (.int 1)))] []) (.s 2) (.seq (.b 0)) [] [2])]))) [(.ret (.c (.bl false)))] []), (.ret (.cmp .Eq (.bi "sorted" [(.b 0)]) (.col "list" (.rng [(.b 1)]))))]⟩
noncomputable def Γ_has_each (ct : CloT) : Env' := { G0 ct with fn := (fun f => if f = "is_between" then F_is_between else fun _ _ _ => .bad) }
noncomputable def F_has_each (ct : CloT) (ds : List D) (g : G) : Res := f_has_each.run (Γ_has_each ct) ds g
def N_has_each : List Str := ["thing", "many", "letter"]
theorem sc_has_each : FnScope N_has_each ["thing", "many"] (defScope (top 12)) := ⟨rfl, rfl, rfl, (by decide +kernel), rfl, (by decide +kernel), (by decide +kernel)⟩
section
variable {R : RC} {T : Tab} {tt : List (Addr × Addr)} {h : Heap} (F : FX R T tt h)
include F
theorem s_has_each (ct : CloT) : SndSs R T ⟨N_has_each, defScope (top 12), 2, true⟩ (Γ_has_each ct) (defBody (top 12)) f_has_each.body :=
  (.cons
  (.ite (SndT.w (SndW.or (SndT.cmp (.e (SndE.bi rfl (by decide +kernel) (n_len F) bo_len (.cons (.b (by decide +kernel)) SndA.nil)) rfl) (.b (by decide +kernel))) (SndW.or1 (SndT.not (SndT.val (SndE.bi rfl (by decide +kernel) (n_all F) bo_all (.cons (.e (SndE.comp (own := [("letter", 2)]) (SndI.seq (.b (by decide +kernel))) (SndB.s (by decide +kernel)) SndC.nil (SndE.call (ok_is_between F) (by kernel_rfl) (by decide +kernel) rfl (by decide +kernel) (.cons (.e (SndE.v (by decide +kernel)) rfl) (.cons (.e SndE.int rfl) (.cons (.e (SndE.bin rfl (.b (by decide +kernel)) (.e SndE.int rfl)) rfl) SndA.nil)))) (by decide +kernel) rfl (by decide +kernel)) rfl) SndA.nil))))))) (.cons
  (.ret SndE.bl) SndSs.nil) SndSs.nil) (.cons
  (.ret (SndE.cmp (.e (SndE.bi rfl (by decide +kernel) (n_sorted F) bo_sorted (.cons (.b (by decide +kernel)) SndA.nil)) rfl) (.e (SndE.colL (by decide +kernel) (n_list F) (by decide +kernel) (SndR.one (by decide +kernel) (n_range F) (.b (by decide +kernel)))) rfl))) SndSs.nil))
theorem ok_has_each : FnS R T 3 "has_each" ["thing", "many"] F_has_each := F.fnS (d := q_has_each) (Γ := Γ_has_each) (t := f_has_each.body) (List.mem_of_getElem? (i := 3) rfl) (by decide +kernel) ⟨rfl, rfl, rfl⟩ sc_has_each (fun _ _ _ _ _ _ us hl => match us, hl with | [_, _], _ => rfl) (fun _ _ _ _ _ _ => kwN (by kernel_rfl)) (fun _ _ _ h => if_pos h) (s_has_each F) (fun _ => rfl) fun _ => rfl
end
def f_RowD_initD : Def := ⟨3, 3,
  [(.ite (.or (.not (.call "is_list" [(.v 1)] [])) (.not (.chn .LtE .LtE (.g "LEAST_LETTERS" (.int 2)) (.bi "len" [(.b 1)]) (.g "MOST_LETTERS" (.int 8))))) [(.rai "BadRow" [(.c (.str "above"))])] []), (.ite (.not (.call "has_each" [(.v 1), (.bi "len" [(.b 1)])] [])) [(.rai "BadRow" [(.c (.str "above"))])] []), (.ite (.or (.not (.call "is_list" [(.v 2)] [])) (.not (.call "has_each" [(.v 2), (.bi "len" [(.b 1)])] []))) [(.rai "BadRow" [(.c (.str "below"))])] []), (.fput 0 "above" (.bi "tuple" [(.b 1)])), (.fput 0 "below" (.bi "tuple" [(.b 2)]))]⟩
noncomputable def Γ_RowD_initD (ct : CloT) : Env' := { G0 ct with fn := (fun f => if f = "is_list" then F_is_list else if f = "has_each" then F_has_each else fun _ _ _ => .bad), mkc := (fun f => if f = "BadRow" then mkX1 "BadRow" "part" else fun _ _ _ => .bad) }
noncomputable def F_RowD_initD (ct : CloT) (ds : List D) (g : G) : Res := f_RowD_initD.run (Γ_RowD_initD ct) ds g
def N_RowD_initD : List Str := ["self", "above", "below"]
theorem sc_RowD_initD : FnScope N_RowD_initD ["self", "above", "below"] (defScope (clsAt (top 13) 0)) := ⟨rfl, rfl, rfl, (by decide +kernel), rfl, (by decide +kernel), (by decide +kernel)⟩
section
variable {R : RC} {T : Tab} {tt : List (Addr × Addr)} {h : Heap} (F : FX R T tt h)
include F
theorem s_RowD_initD (ct : CloT) : SndSs R T ⟨N_RowD_initD, defScope (clsAt (top 13) 0), 3, true⟩ (Γ_RowD_initD ct) (defBody (clsAt (top 13) 0)) f_RowD_initD.body :=
  (.cons
  (.ite (SndT.w (SndW.or (SndT.not (SndT.val (SndE.call (ok_is_list F) (by kernel_rfl) (by decide +kernel) rfl (by decide +kernel) (.cons (.e (SndE.v (by decide +kernel)) rfl) SndA.nil)))) (SndW.or1 (SndT.not (SndT.chn (SndE.gintE (by decide +kernel) (i_LEAST_LETTERS F)) (SndE.bi rfl (by decide +kernel) (n_len F) bo_len (.cons (.b (by decide +kernel)) SndA.nil)) (SndE.gintE (by decide +kernel) (i_MOST_LETTERS F))))))) (.cons
  (.rai1 (e_BadRow F) (by kernel_rfl) (by decide +kernel) (.cons (.e SndE.str rfl) SndA.nil)) SndSs.nil) SndSs.nil) (.cons
  (.ite (SndT.not (SndT.val (SndE.call (ok_has_each F) (by kernel_rfl) (by decide +kernel) rfl (by decide +kernel) (.cons (.e (SndE.v (by decide +kernel)) rfl) (.cons (.e (SndE.bi rfl (by decide +kernel) (n_len F) bo_len (.cons (.b (by decide +kernel)) SndA.nil)) rfl) SndA.nil))))) (.cons
  (.rai1 (e_BadRow F) (by kernel_rfl) (by decide +kernel) (.cons (.e SndE.str rfl) SndA.nil)) SndSs.nil) SndSs.nil) (.cons
  (.ite (SndT.w (SndW.or (SndT.not (SndT.val (SndE.call (ok_is_list F) (by kernel_rfl) (by decide +kernel) rfl (by decide +kernel) (.cons (.e (SndE.v (by decide +kernel)) rfl) SndA.nil)))) (SndW.or1 (SndT.not (SndT.val (SndE.call (ok_has_each F) (by kernel_rfl) (by decide +kernel) rfl (by decide +kernel) (.cons (.e (SndE.v (by decide +kernel)) rfl) (.cons (.e (SndE.bi rfl (by decide +kernel) (n_len F) bo_len (.cons (.b (by decide +kernel)) SndA.nil)) rfl) SndA.nil)))))))) (.cons
  (.rai1 (e_BadRow F) (by kernel_rfl) (by decide +kernel) (.cons (.e SndE.str rfl) SndA.nil)) SndSs.nil) SndSs.nil) (.cons
  (.fput (by decide +kernel) (SndE.ty rfl (by decide +kernel) (n_tuple F) bo_tuple (.cons (.b (by decide +kernel)) SndA.nil)) (fld_ F "above")) (.cons
  (.fput (by decide +kernel) (SndE.ty rfl (by decide +kernel) (n_tuple F) bo_tuple (.cons (.b (by decide +kernel)) SndA.nil)) (fld_ F "below")) SndSs.nil)))))
theorem mk_Row : MkS R T 4 "Row" "Row" ["above", "below"] F_RowD_initD := F.mkS (d := q_RowD_initD) (Γ := Γ_RowD_initD) (t := f_RowD_initD.body) (List.mem_of_getElem? (i := 4) rfl) (by decide +kernel) (by decide +kernel) ⟨rfl, (by kernel_rfl), rfl⟩ sc_RowD_initD (fun _ _ _ _ _ _ us hl => match us, hl with | [_, _, _], _ => rfl) (fun _ _ _ _ _ _ => kwN (by kernel_rfl)) (fun _ _ _ h => if_pos h) (s_RowD_initD F) (fun _ => rfl) fun _ => rfl
end
def f_RowD_eqD : Def := ⟨2, 2,
  [(.ret (.and (.isc (.v 1) "Row") (.and (.cmp .Eq (.fld (.b 0) "above") (.fld (.b 1) "above")) (.cmp .Eq (.fld (.b 0) "below") (.fld (.b 1) "below")))))]⟩
noncomputable def Γ_RowD_eqD (ct : CloT) : Env' := G0 ct
noncomputable def F_RowD_eqD (ct : CloT) (ds : List D) (g : G) : Res := f_RowD_eqD.run (Γ_RowD_eqD ct) ds g
def N_RowD_eqD : List Str := ["self", "other"]
theorem sc_RowD_eqD : FnScope N_RowD_eqD ["self", "other"] (defScope (clsAt (top 13) 1)) := ⟨rfl, rfl, rfl, (by decide +kernel), rfl, (by decide +kernel), (by decide +kernel)⟩
section
variable {R : RC} {T : Tab} {tt : List (Addr × Addr)} {h : Heap} (F : FX R T tt h)
include F
theorem s_RowD_eqD (ct : CloT) : SndSs R T ⟨N_RowD_eqD, defScope (clsAt (top 13) 1), 0, true⟩ (Γ_RowD_eqD ct) (defBody (clsAt (top 13) 1)) f_RowD_eqD.body :=
  (.cons
  (.ret (SndE.and (SndE.isc (by decide +kernel) (n_isinstance F) bo_isinstance (by decide +kernel) (g_Row F) (isc_Row F rfl rfl) (SndE.v (by decide +kernel))) (SndE.and (SndE.cmp (.e (SndE.fld (.b (by decide +kernel)) (fld_ F "above") (xfld_ F "above")) rfl) (.e (SndE.fld (.b (by decide +kernel)) (fld_ F "above") (xfld_ F "above")) rfl)) (SndE.one (SndE.cmp (.e (SndE.fld (.b (by decide +kernel)) (fld_ F "below") (xfld_ F "below")) rfl) (.e (SndE.fld (.b (by decide +kernel)) (fld_ F "below") (xfld_ F "below")) rfl)))))) SndSs.nil)
theorem eq_Row : EqC R T 1 "Row" F_RowD_eqD := F.eqC (d := q_RowD_eqD) (Γ := Γ_RowD_eqD) (t := f_RowD_eqD.body) (List.mem_of_getElem? (i := 5) rfl) (by decide +kernel) (by decide +kernel) ⟨rfl, rfl⟩ sc_RowD_eqD (fun _ _ _ _ _ _ us hl => match us, hl with | [_, _], _ => rfl) (fun _ _ _ _ _ _ => kwN (by kernel_rfl)) (fun _ _ _ h => if_pos h) (s_RowD_eqD F) (fun _ => rfl) fun _ => rfl
end
def f_need_row : Def := ⟨1, 1,
  [(.ite (.not (.isc (.v 0) "Row")) [(.rai "BadRow" [(.c .non)])] [])]⟩
noncomputable def Γ_need_row (ct : CloT) : Env' := { G0 ct with mkc := (fun f => if f = "BadRow" then mkX1 "BadRow" "part" else fun _ _ _ => .bad) }
noncomputable def F_need_row (ct : CloT) (ds : List D) (g : G) : Res := f_need_row.run (Γ_need_row ct) ds g
def N_need_row : List Str := ["row"]
theorem sc_need_row : FnScope N_need_row ["row"] (defScope (top 14)) := ⟨rfl, rfl, rfl, (by decide +kernel), rfl, (by decide +kernel), (by decide +kernel)⟩
section
variable {R : RC} {T : Tab} {tt : List (Addr × Addr)} {h : Heap} (F : FX R T tt h)
include F
theorem s_need_row (ct : CloT) : SndSs R T ⟨N_need_row, defScope (top 14), 0, true⟩ (Γ_need_row ct) (defBody (top 14)) f_need_row.body :=
  (.cons
  (.ite (SndT.not (SndT.val (SndE.isc (by decide +kernel) (n_isinstance F) bo_isinstance (by decide +kernel) (g_Row F) (isc_Row F rfl rfl) (SndE.v (by decide +kernel))))) (.cons
  (.rai1 (e_BadRow F) (by kernel_rfl) (by decide +kernel) (.cons (.e SndE.non rfl) SndA.nil)) SndSs.nil) SndSs.nil) SndSs.nil)
theorem ok_need_row : FnS R T 1 "need_row" ["row"] F_need_row := F.fnS (d := q_need_row) (Γ := Γ_need_row) (t := f_need_row.body) (List.mem_of_getElem? (i := 6) rfl) (by decide +kernel) ⟨rfl, rfl, rfl⟩ sc_need_row (fun _ _ _ _ _ _ us hl => match us, hl with | [_], _ => rfl) (fun _ _ _ _ _ _ => kwN (by kernel_rfl)) (fun _ _ _ h => if_pos h) (s_need_row F) (fun _ => rfl) fun _ => rfl
end
def f_spots_told : Def := ⟨1, 4,
  [(.own 1 (.bin .Mult (.lst [(.c (.int 0))]) (.bi "len" [(.b 0)]))), (.loop (.t [(.s 2), (.s 3)]) (.enu [(.v 0)]) [(.put 1 (.v 3) (.v 2))]), (.ret (.o 1))]⟩
noncomputable def Γ_spots_told (ct : CloT) : Env' := G0 ct
noncomputable def F_spots_told (ct : CloT) (ds : List D) (g : G) : Res := f_spots_told.run (Γ_spots_told ct) ds g
def N_spots_told : List Str := ["letters", "found", "spot", "letter"]
theorem sc_spots_told : FnScope N_spots_told ["letters"] (defScope (top 16)) := ⟨rfl, rfl, rfl, (by decide +kernel), rfl, (by decide +kernel), (by decide +kernel)⟩
section
variable {R : RC} {T : Tab} {tt : List (Addr × Addr)} {h : Heap} (F : FX R T tt h)
include F
theorem s_spots_told (ct : CloT) : SndSs R T ⟨N_spots_told, defScope (top 16), 0, true⟩ (Γ_spots_told ct) (defBody (top 16)) f_spots_told.body :=
  (.cons
  (.own (by decide +kernel) (SndE.bin rfl (.e (SndE.lst (.cons SndE.int SndD.nil)) rfl) (.e (SndE.bi rfl (by decide +kernel) (n_len F) bo_len (.cons (.b (by decide +kernel)) SndA.nil)) rfl))) (.cons
  (.loop (SndI.enu (.inr rfl) (by decide +kernel) (n_enumerate F) (.cons (.e (SndE.v (by decide +kernel)) rfl) SndA.nil)) (SndB.t (.cons (SndB.s (by decide +kernel)) (.cons (SndB.s (by decide +kernel)) SndBs.nil))) (.cons
  (.put (by decide +kernel) (SndE.v (by decide +kernel)) (SndE.v (by decide +kernel))) SndSs.nil)) (.cons
  (.retO (by decide +kernel)) SndSs.nil)))
theorem ok_spots_told : FnS R T 1 "spots_told" ["letters"] F_spots_told := F.fnS (d := q_spots_told) (Γ := Γ_spots_told) (t := f_spots_told.body) (List.mem_of_getElem? (i := 7) rfl) (by decide +kernel) ⟨rfl, rfl, rfl⟩ sc_spots_told (fun _ _ _ _ _ _ us hl => match us, hl with | [_], _ => rfl) (fun _ _ _ _ _ _ => kwN (by kernel_rfl)) (fun _ _ _ h => if_pos h) (s_spots_told F) (fun _ => rfl) fun _ => rfl
end
def f_parts_told : Def := ⟨2, 7,
  [(.asgs [(.t (.s 2)), (.o 3), (.t (.s 4))] [(.call "spots_told" [(.v 0)] []), (.lst []), (.neg (.c (.int 1)))]), (.loop (.t [(.s 5), (.s 6)]) (.enu [(.slc (.b 1) .no (.neg (.c (.int 1)))), (.c (.int 1))]) [(.asg (.s 4) (.bi "max" [(.b 4), (.idx (.b 2) (.b 6))])), (.ite (.cmp .Eq (.b 4) (.bin .Sub (.b 5) (.c (.int 1)))) [(.app 3 (.v 5))] [])]), (.ret (.o 3))]⟩
noncomputable def Γ_parts_told (ct : CloT) : Env' := { G0 ct with fn := (fun f => if f = "spots_told" then F_spots_told else fun _ _ _ => .bad) }
noncomputable def F_parts_told (ct : CloT) (ds : List D) (g : G) : Res := f_parts_told.run (Γ_parts_told ct) ds g
def N_parts_told : List Str := ["above", "below", "spots", "found", "greatest", "many", "letter"]
theorem sc_parts_told : FnScope N_parts_told ["above", "below"] (defScope (top 15)) := ⟨rfl, rfl, rfl, (by decide +kernel), rfl, (by decide +kernel), (by decide +kernel)⟩
section
variable {R : RC} {T : Tab} {tt : List (Addr × Addr)} {h : Heap} (F : FX R T tt h)
include F
theorem s_parts_told (ct : CloT) : SndSs R T ⟨N_parts_told, defScope (top 15), 1, true⟩ (Γ_parts_told ct) (defBody (top 15)) f_parts_told.body :=
  (.cons
  (.par3 (by decide +kernel) (by decide +kernel) (by decide +kernel) (by decide +kernel) (by decide +kernel) (by decide +kernel) rfl rfl (.cons (SndE.call (ok_spots_told F) (by kernel_rfl) (by decide +kernel) rfl (by decide +kernel) (.cons (.e (SndE.v (by decide +kernel)) rfl) SndA.nil)) (.cons (SndE.lst SndD.nil) (.cons (SndE.neg SndE.int) SndO.nil))) (by intro env he; cases env; cases he; rfl)) (.cons
  (.loop (SndI.enu (.inr rfl) (by decide +kernel) (n_enumerate F) (.cons (.e (SndE.slc (.b (by decide +kernel)) SndP.no (.e (SndE.neg SndE.int) rfl)) rfl) (.cons (.e SndE.int rfl) SndA.nil))) (SndB.t (.cons (SndB.s (by decide +kernel)) (.cons (SndB.s (by decide +kernel)) SndBs.nil))) (.cons
  (.asg (SndB.s (by decide +kernel)) (SndE.bi rfl (by decide +kernel) (n_max F) bo_max (.cons (.b (by decide +kernel)) (.cons (.e (SndE.idx (.b (by decide +kernel)) (.b (by decide +kernel))) rfl) SndA.nil)))) (.cons
  (.ite (SndT.cmp (.b (by decide +kernel)) (.e (SndE.bin rfl (.b (by decide +kernel)) (.e SndE.int rfl)) rfl)) (.cons
  (.app (by decide +kernel) (SndE.v (by decide +kernel))) SndSs.nil) SndSs.nil) SndSs.nil))) (.cons
  (.retO (by decide +kernel)) SndSs.nil)))
theorem ok_parts_told : FnS R T 2 "parts_told" ["above", "below"] F_parts_told := F.fnS (d := q_parts_told) (Γ := Γ_parts_told) (t := f_parts_told.body) (List.mem_of_getElem? (i := 8) rfl) (by decide +kernel) ⟨rfl, rfl, rfl⟩ sc_parts_told (fun _ _ _ _ _ _ us hl => match us, hl with | [_, _], _ => rfl) (fun _ _ _ _ _ _ => kwN (by kernel_rfl)) (fun _ _ _ h => if_pos h) (s_parts_told F) (fun _ => rfl) fun _ => rfl
end
def f_is_whole : Def := ⟨1, 1,
  [(.ex (.call "need_row" [(.v 0)] [])), (.ret (.cmp .Eq (.call "parts_told" [(.fld (.b 0) "above"), (.fld (.b 0) "below")] []) (.lst [])))]⟩
noncomputable def Γ_is_whole (ct : CloT) : Env' := { G0 ct with fn := (fun f => if f = "need_row" then F_need_row else if f = "parts_told" then F_parts_told else fun _ _ _ => .bad) }
noncomputable def F_is_whole (ct : CloT) (ds : List D) (g : G) : Res := f_is_whole.run (Γ_is_whole ct) ds g
def N_is_whole : List Str := ["row"]
theorem sc_is_whole : FnScope N_is_whole ["row"] (defScope (top 17)) := ⟨rfl, rfl, rfl, (by decide +kernel), rfl, (by decide +kernel), (by decide +kernel)⟩
section
variable {R : RC} {T : Tab} {tt : List (Addr × Addr)} {h : Heap} (F : FX R T tt h)
include F
theorem s_is_whole (ct : CloT) : SndSs R T ⟨N_is_whole, defScope (top 17), 2, true⟩ (Γ_is_whole ct) (defBody (top 17)) f_is_whole.body :=
  (.cons
  (.ex (SndE.call (ok_need_row F) (by kernel_rfl) (by decide +kernel) rfl (by decide +kernel) (.cons (.e (SndE.v (by decide +kernel)) rfl) SndA.nil))) (.cons
  (.ret (SndE.cmp (.e (SndE.call (ok_parts_told F) (by kernel_rfl) (by decide +kernel) rfl (by decide +kernel) (.cons (.e (SndE.fld (.b (by decide +kernel)) (fld_ F "above") (xfld_ F "above")) rfl) (.cons (.e (SndE.fld (.b (by decide +kernel)) (fld_ F "below") (xfld_ F "below")) rfl) SndA.nil))) rfl) (.e (SndE.lst SndD.nil) rfl))) SndSs.nil))
theorem ok_is_whole : FnS R T 3 "is_whole" ["row"] F_is_whole := F.fnS (d := q_is_whole) (Γ := Γ_is_whole) (t := f_is_whole.body) (List.mem_of_getElem? (i := 9) rfl) (by decide +kernel) ⟨rfl, rfl, rfl⟩ sc_is_whole (fun _ _ _ _ _ _ us hl => match us, hl with | [_], _ => rfl) (fun _ _ _ _ _ _ => kwN (by kernel_rfl)) (fun _ _ _ h => if_pos h) (s_is_whole F) (fun _ => rfl) fun _ => rfl
end
def f_is_shape : Def := ⟨1, 1,
  [(.ite (.or (.not (.bi "isinstance" [(.b 0), (.bty "tuple")])) (.not (.chn .LtE .LtE (.g "LEAST_LETTERS" (.int 2)) (.bi "len" [(.b 0)]) (.g "MOST_LETTERS" (.int 8))))) [(.ret (.c (.bl false)))] []), (.ret (.call "has_each" [(.v 0), (.bi "len" [(.b 0)])] []))]⟩
noncomputable def Γ_is_shape (ct : CloT) : Env' := { G0 ct with fn := (fun f => if f = "has_each" then F_has_each else fun _ _ _ => .bad) }
noncomputable def F_is_shape (ct : CloT) (ds : List D) (g : G) : Res := f_is_shape.run (Γ_is_shape ct) ds g
def N_is_shape : List Str := ["thing"]
theorem sc_is_shape : FnScope N_is_shape ["thing"] (defScope (top 19)) := ⟨rfl, rfl, rfl, (by decide +kernel), rfl, (by decide +kernel), (by decide +kernel)⟩
section
variable {R : RC} {T : Tab} {tt : List (Addr × Addr)} {h : Heap} (F : FX R T tt h)
include F
theorem s_is_shape (ct : CloT) : SndSs R T ⟨N_is_shape, defScope (top 19), 3, true⟩ (Γ_is_shape ct) (defBody (top 19)) f_is_shape.body :=
  (.cons
  (.ite (SndT.w (SndW.or (SndT.not (SndT.val (SndE.bi rfl (by decide +kernel) (n_isinstance F) bo_isinstance (.cons (.b (by decide +kernel)) (.cons (.e (SndE.bty (by decide +kernel) (n_tuple F) bo_tuple) rfl) SndA.nil))))) (SndW.or1 (SndT.not (SndT.chn (SndE.gintE (by decide +kernel) (i_LEAST_LETTERS F)) (SndE.bi rfl (by decide +kernel) (n_len F) bo_len (.cons (.b (by decide +kernel)) SndA.nil)) (SndE.gintE (by decide +kernel) (i_MOST_LETTERS F))))))) (.cons
  (.ret SndE.bl) SndSs.nil) SndSs.nil) (.cons
  (.ret (SndE.call (ok_has_each F) (by kernel_rfl) (by decide +kernel) rfl (by decide +kernel) (.cons (.e (SndE.v (by decide +kernel)) rfl) (.cons (.e (SndE.bi rfl (by decide +kernel) (n_len F) bo_len (.cons (.b (by decide +kernel)) SndA.nil)) rfl) SndA.nil)))) SndSs.nil))
omit F in
theorem kwt_is_shape : kwT "is_shape" = [(0, (["thing"] : List Str))] := by kernel_rfl
theorem ok_is_shape : FnS R T 4 "is_shape" ["thing"] F_is_shape := F.fnS (d := q_is_shape) (Γ := Γ_is_shape) (t := f_is_shape.body) (List.mem_of_getElem? (i := 10) rfl) (by decide +kernel) ⟨rfl, rfl, rfl⟩ sc_is_shape (fun _ _ _ _ _ _ us hl => match us, hl with | [_], _ => rfl) (fun _ _ _ _ _ _ p hp => (kwC rfl (fun us ws e1 e2 => match us, ws, e1, e2 with | [], [_], _, _ => rfl) (kwN rfl) : ∀ p ∈ ([(0, (["thing"] : List Str))] : List (Nat × List Str)), KwOk _ ["thing"] p.1 p.2) p (by rw [← kwt_is_shape]; exact hp)) (fun _ _ _ h => if_pos h) (s_is_shape F) (fun _ => rfl) fun _ => rfl
end
def f_need_shape : Def := ⟨1, 1,
  [(.ite (.not (.call "is_shape" [(.v 0)] [])) [(.rai "BadShape" [(.c (.str "no shape"))])] [])]⟩
noncomputable def Γ_need_shape (ct : CloT) : Env' := { G0 ct with fn := (fun f => if f = "is_shape" then F_is_shape else fun _ _ _ => .bad), mkc := (fun f => if f = "BadShape" then mkX0 "BadShape" else fun _ _ _ => .bad) }
noncomputable def F_need_shape (ct : CloT) (ds : List D) (g : G) : Res := f_need_shape.run (Γ_need_shape ct) ds g
def N_need_shape : List Str := ["shape"]
theorem sc_need_shape : FnScope N_need_shape ["shape"] (defScope (top 20)) := ⟨rfl, rfl, rfl, (by decide +kernel), rfl, (by decide +kernel), (by decide +kernel)⟩
section
variable {R : RC} {T : Tab} {tt : List (Addr × Addr)} {h : Heap} (F : FX R T tt h)
include F
theorem s_need_shape (ct : CloT) : SndSs R T ⟨N_need_shape, defScope (top 20), 4, true⟩ (Γ_need_shape ct) (defBody (top 20)) f_need_shape.body :=
  (.cons
  (.ite (SndT.not (SndT.val (SndE.call (ok_is_shape F) (by kernel_rfl) (by decide +kernel) rfl (by decide +kernel) (.cons (.e (SndE.v (by decide +kernel)) rfl) SndA.nil)))) (.cons
  (.rai0 (e_BadShape F) (by kernel_rfl) (by decide +kernel)) SndSs.nil) SndSs.nil) SndSs.nil)
theorem ok_need_shape : FnS R T 5 "need_shape" ["shape"] F_need_shape := F.fnS (d := q_need_shape) (Γ := Γ_need_shape) (t := f_need_shape.body) (List.mem_of_getElem? (i := 11) rfl) (by decide +kernel) ⟨rfl, rfl, rfl⟩ sc_need_shape (fun _ _ _ _ _ _ us hl => match us, hl with | [_], _ => rfl) (fun _ _ _ _ _ _ => kwN (by kernel_rfl)) (fun _ _ _ h => if_pos h) (s_need_shape F) (fun _ => rfl) fun _ => rfl
end
def f_told_shape : Def := ⟨2, 4,
  [(.asg (.s 2) (.call "spots_told" [(.v 0)] [])), (.ret (.bi "tuple" [(.comp (.idx (.b 2) (.b 3)) (.s 3) (.seq (.b 1)) [] [3])]))]⟩
noncomputable def Γ_told_shape (ct : CloT) : Env' := { G0 ct with fn := (fun f => if f = "spots_told" then F_spots_told else fun _ _ _ => .bad) }
noncomputable def F_told_shape (ct : CloT) (ds : List D) (g : G) : Res := f_told_shape.run (Γ_told_shape ct) ds g
def N_told_shape : List Str := ["above", "below", "spots", "letter"]
theorem sc_told_shape : FnScope N_told_shape ["above", "below"] (defScope (top 21)) := ⟨rfl, rfl, rfl, (by decide +kernel), rfl, (by decide +kernel), (by decide +kernel)⟩
section
variable {R : RC} {T : Tab} {tt : List (Addr × Addr)} {h : Heap} (F : FX R T tt h)
include F
theorem s_told_shape (ct : CloT) : SndSs R T ⟨N_told_shape, defScope (top 21), 1, true⟩ (Γ_told_shape ct) (defBody (top 21)) f_told_shape.body :=
  (.cons
  (.asg (SndB.s (by decide +kernel)) (SndE.call (ok_spots_told F) (by kernel_rfl) (by decide +kernel) rfl (by decide +kernel) (.cons (.e (SndE.v (by decide +kernel)) rfl) SndA.nil))) (.cons
  (.ret (SndE.ty rfl (by decide +kernel) (n_tuple F) bo_tuple (.cons (.e (SndE.comp (own := [("letter", 3)]) (SndI.seq (.b (by decide +kernel))) (SndB.s (by decide +kernel)) SndC.nil (SndE.idx (.b (by decide +kernel)) (.b (by decide +kernel))) (by decide +kernel) rfl (by decide +kernel)) rfl) SndA.nil))) SndSs.nil))
theorem ok_told_shape : FnS R T 2 "told_shape" ["above", "below"] F_told_shape := F.fnS (d := q_told_shape) (Γ := Γ_told_shape) (t := f_told_shape.body) (List.mem_of_getElem? (i := 12) rfl) (by decide +kernel) ⟨rfl, rfl, rfl⟩ sc_told_shape (fun _ _ _ _ _ _ us hl => match us, hl with | [_, _], _ => rfl) (fun _ _ _ _ _ _ => kwN (by kernel_rfl)) (fun _ _ _ h => if_pos h) (s_told_shape F) (fun _ => rfl) fun _ => rfl
end
def f_shape_of : Def := ⟨1, 1,
  [(.ex (.call "need_row" [(.v 0)] [])), (.ret (.call "told_shape" [(.fld (.b 0) "above"), (.fld (.b 0) "below")] []))]⟩
noncomputable def Γ_shape_of (ct : CloT) : Env' := { G0 ct with fn := (fun f => if f = "need_row" then F_need_row else if f = "told_shape" then F_told_shape else fun _ _ _ => .bad) }
noncomputable def F_shape_of (ct : CloT) (ds : List D) (g : G) : Res := f_shape_of.run (Γ_shape_of ct) ds g
def N_shape_of : List Str := ["row"]
theorem sc_shape_of : FnScope N_shape_of ["row"] (defScope (top 22)) := ⟨rfl, rfl, rfl, (by decide +kernel), rfl, (by decide +kernel), (by decide +kernel)⟩
section
variable {R : RC} {T : Tab} {tt : List (Addr × Addr)} {h : Heap} (F : FX R T tt h)
include F
theorem s_shape_of (ct : CloT) : SndSs R T ⟨N_shape_of, defScope (top 22), 2, true⟩ (Γ_shape_of ct) (defBody (top 22)) f_shape_of.body :=
  (.cons
  (.ex (SndE.call (ok_need_row F) (by kernel_rfl) (by decide +kernel) rfl (by decide +kernel) (.cons (.e (SndE.v (by decide +kernel)) rfl) SndA.nil))) (.cons
  (.ret (SndE.call (ok_told_shape F) (by kernel_rfl) (by decide +kernel) rfl (by decide +kernel) (.cons (.e (SndE.fld (.b (by decide +kernel)) (fld_ F "above") (xfld_ F "above")) rfl) (.cons (.e (SndE.fld (.b (by decide +kernel)) (fld_ F "below") (xfld_ F "below")) rfl) SndA.nil)))) SndSs.nil))
omit F in
theorem kwt_shape_of : kwT "shape_of" = [(0, (["row"] : List Str))] := by kernel_rfl
theorem ok_shape_of : FnS R T 3 "shape_of" ["row"] F_shape_of := F.fnS (d := q_shape_of) (Γ := Γ_shape_of) (t := f_shape_of.body) (List.mem_of_getElem? (i := 13) rfl) (by decide +kernel) ⟨rfl, rfl, rfl⟩ sc_shape_of (fun _ _ _ _ _ _ us hl => match us, hl with | [_], _ => rfl) (fun _ _ _ _ _ _ p hp => (kwC rfl (fun us ws e1 e2 => match us, ws, e1, e2 with | [], [_], _, _ => rfl) (kwN rfl) : ∀ p ∈ ([(0, (["row"] : List Str))] : List (Nat × List Str)), KwOk _ ["row"] p.1 p.2) p (by rw [← kwt_shape_of]; exact hp)) (fun _ _ _ h => if_pos h) (s_shape_of F) (fun _ => rfl) fun _ => rfl
end
def f_row_of_shape : Def := ⟨1, 1,
  [(.ex (.call "need_shape" [(.v 0)] [])), (.ret (.mk "Row" [(.col "tuple" (.rng [(.bi "len" [(.b 0)])])), (.v 0)] []))]⟩
noncomputable def Γ_row_of_shape (ct : CloT) : Env' := { G0 ct with fn := (fun f => if f = "need_shape" then F_need_shape else fun _ _ _ => .bad), mkc := (fun f => if f = "Row" then mkR "Row" F_RowD_initD else fun _ _ _ => .bad) }
noncomputable def F_row_of_shape (ct : CloT) (ds : List D) (g : G) : Res := f_row_of_shape.run (Γ_row_of_shape ct) ds g
def N_row_of_shape : List Str := ["shape"]
theorem sc_row_of_shape : FnScope N_row_of_shape ["shape"] (defScope (top 23)) := ⟨rfl, rfl, rfl, (by decide +kernel), rfl, (by decide +kernel), (by decide +kernel)⟩
section
variable {R : RC} {T : Tab} {tt : List (Addr × Addr)} {h : Heap} (F : FX R T tt h)
include F
theorem s_row_of_shape (ct : CloT) : SndSs R T ⟨N_row_of_shape, defScope (top 23), 5, true⟩ (Γ_row_of_shape ct) (defBody (top 23)) f_row_of_shape.body :=
  (.cons
  (.ex (SndE.call (ok_need_shape F) (by kernel_rfl) (by decide +kernel) rfl (by decide +kernel) (.cons (.e (SndE.v (by decide +kernel)) rfl) SndA.nil))) (.cons
  (.ret (SndE.mk (mk_Row F) (by kernel_rfl) (by decide +kernel) rfl (by decide +kernel) (.cons (.e (SndE.colT (by decide +kernel) (n_tuple F) (by decide +kernel) (SndR.one (by decide +kernel) (n_range F) (.e (SndE.bi rfl (by decide +kernel) (n_len F) bo_len (.cons (.b (by decide +kernel)) SndA.nil)) rfl))) rfl) (.cons (.e (SndE.v (by decide +kernel)) rfl) SndA.nil)))) SndSs.nil))
omit F in
theorem kwt_row_of_shape : kwT "row_of_shape" = [(0, (["shape"] : List Str))] := by kernel_rfl
theorem ok_row_of_shape : FnS R T 6 "row_of_shape" ["shape"] F_row_of_shape := F.fnS (d := q_row_of_shape) (Γ := Γ_row_of_shape) (t := f_row_of_shape.body) (List.mem_of_getElem? (i := 14) rfl) (by decide +kernel) ⟨rfl, rfl, rfl⟩ sc_row_of_shape (fun _ _ _ _ _ _ us hl => match us, hl with | [_], _ => rfl) (fun _ _ _ _ _ _ p hp => (kwC rfl (fun us ws e1 e2 => match us, ws, e1, e2 with | [], [_], _, _ => rfl) (kwN rfl) : ∀ p ∈ ([(0, (["shape"] : List Str))] : List (Nat × List Str)), KwOk _ ["shape"] p.1 p.2) p (by rw [← kwt_row_of_shape]; exact hp)) (fun _ _ _ h => if_pos h) (s_row_of_shape F) (fun _ => rfl) fun _ => rfl
end
def f_renamed : Def := ⟨2, 3,
  [(.ex (.call "need_row" [(.v 0)] [])), (.ite (.or (.not (.call "is_list" [(.v 1)] [])) (.not (.call "has_each" [(.v 1), (.bi "len" [(.fld (.b 0) "above")])] []))) [(.rai "BadLetters" [(.c (.str "not each letter once"))])] []), (.ret (.mk "Row" [(.comp (.idx (.b 1) (.b 2)) (.s 2) (.seq (.fld (.b 0) "above")) [] [2]), (.comp (.idx (.b 1) (.b 2)) (.s 2) (.seq (.fld (.b 0) "below")) [] [2])] []))]⟩
noncomputable def Γ_renamed (ct : CloT) : Env' := { G0 ct with fn := (fun f => if f = "need_row" then F_need_row else if f = "is_list" then F_is_list else if f = "has_each" then F_has_each else fun _ _ _ => .bad), mkc := (fun f => if f = "BadLetters" then mkX0 "BadLetters" else if f = "Row" then mkR "Row" F_RowD_initD else fun _ _ _ => .bad) }
noncomputable def F_renamed (ct : CloT) (ds : List D) (g : G) : Res := f_renamed.run (Γ_renamed ct) ds g
def N_renamed : List Str := ["row", "letters", "letter"]
theorem sc_renamed : FnScope N_renamed ["row", "letters"] (defScope (top 24)) := ⟨rfl, rfl, rfl, (by decide +kernel), rfl, (by decide +kernel), (by decide +kernel)⟩
section
variable {R : RC} {T : Tab} {tt : List (Addr × Addr)} {h : Heap} (F : FX R T tt h)
include F
theorem s_renamed (ct : CloT) : SndSs R T ⟨N_renamed, defScope (top 24), 5, true⟩ (Γ_renamed ct) (defBody (top 24)) f_renamed.body :=
  (.cons
  (.ex (SndE.call (ok_need_row F) (by kernel_rfl) (by decide +kernel) rfl (by decide +kernel) (.cons (.e (SndE.v (by decide +kernel)) rfl) SndA.nil))) (.cons
  (.ite (SndT.w (SndW.or (SndT.not (SndT.val (SndE.call (ok_is_list F) (by kernel_rfl) (by decide +kernel) rfl (by decide +kernel) (.cons (.e (SndE.v (by decide +kernel)) rfl) SndA.nil)))) (SndW.or1 (SndT.not (SndT.val (SndE.call (ok_has_each F) (by kernel_rfl) (by decide +kernel) rfl (by decide +kernel) (.cons (.e (SndE.v (by decide +kernel)) rfl) (.cons (.e (SndE.bi rfl (by decide +kernel) (n_len F) bo_len (.cons (.e (SndE.fld (.b (by decide +kernel)) (fld_ F "above") (xfld_ F "above")) rfl) SndA.nil)) rfl) SndA.nil)))))))) (.cons
  (.rai0 (e_BadLetters F) (by kernel_rfl) (by decide +kernel)) SndSs.nil) SndSs.nil) (.cons
  (.ret (SndE.mk (mk_Row F) (by kernel_rfl) (by decide +kernel) rfl (by decide +kernel) (.cons (.e (SndE.comp (own := [("letter", 2)]) (SndI.seq (.e (SndE.fld (.b (by decide +kernel)) (fld_ F "above") (xfld_ F "above")) rfl)) (SndB.s (by decide +kernel)) SndC.nil (SndE.idx (.b (by decide +kernel)) (.b (by decide +kernel))) (by decide +kernel) rfl (by decide +kernel)) rfl) (.cons (.e (SndE.comp (own := [("letter", 2)]) (SndI.seq (.e (SndE.fld (.b (by decide +kernel)) (fld_ F "below") (xfld_ F "below")) rfl)) (SndB.s (by decide +kernel)) SndC.nil (SndE.idx (.b (by decide +kernel)) (.b (by decide +kernel))) (by decide +kernel) rfl (by decide +kernel)) rfl) SndA.nil)))) SndSs.nil)))
omit F in
theorem kwt_renamed : kwT "renamed" = [(0, (["letters", "row"] : List Str))] := by kernel_rfl
theorem ok_renamed : FnS R T 6 "renamed" ["row", "letters"] F_renamed := F.fnS (d := q_renamed) (Γ := Γ_renamed) (t := f_renamed.body) (List.mem_of_getElem? (i := 15) rfl) (by decide +kernel) ⟨rfl, rfl, rfl⟩ sc_renamed (fun _ _ _ _ _ _ us hl => match us, hl with | [_, _], _ => rfl) (fun _ _ _ _ _ _ p hp => (kwC rfl (fun us ws e1 e2 => match us, ws, e1, e2 with | [], [_, _], _, _ => rfl) (kwN rfl) : ∀ p ∈ ([(0, (["letters", "row"] : List Str))] : List (Nat × List Str)), KwOk _ ["row", "letters"] p.1 p.2) p (by rw [← kwt_renamed]; exact hp)) (fun _ _ _ h => if_pos h) (s_renamed F) (fun _ => rfl) fun _ => rfl
end
def f_turned_over : Def := ⟨1, 1,
  [(.ex (.call "need_row" [(.v 0)] [])), (.ret (.mk "Row" [(.fld (.b 0) "below"), (.fld (.b 0) "above")] []))]⟩
noncomputable def Γ_turned_over (ct : CloT) : Env' := { G0 ct with fn := (fun f => if f = "need_row" then F_need_row else fun _ _ _ => .bad), mkc := (fun f => if f = "Row" then mkR "Row" F_RowD_initD else fun _ _ _ => .bad) }
noncomputable def F_turned_over (ct : CloT) (ds : List D) (g : G) : Res := f_turned_over.run (Γ_turned_over ct) ds g
def N_turned_over : List Str := ["row"]
theorem sc_turned_over : FnScope N_turned_over ["row"] (defScope (top 26)) := ⟨rfl, rfl, rfl, (by decide +kernel), rfl, (by decide +kernel), (by decide +kernel)⟩
section
variable {R : RC} {T : Tab} {tt : List (Addr × Addr)} {h : Heap} (F : FX R T tt h)
include F
theorem s_turned_over (ct : CloT) : SndSs R T ⟨N_turned_over, defScope (top 26), 5, true⟩ (Γ_turned_over ct) (defBody (top 26)) f_turned_over.body :=
  (.cons
  (.ex (SndE.call (ok_need_row F) (by kernel_rfl) (by decide +kernel) rfl (by decide +kernel) (.cons (.e (SndE.v (by decide +kernel)) rfl) SndA.nil))) (.cons
  (.ret (SndE.mk (mk_Row F) (by kernel_rfl) (by decide +kernel) rfl (by decide +kernel) (.cons (.e (SndE.fld (.b (by decide +kernel)) (fld_ F "below") (xfld_ F "below")) rfl) (.cons (.e (SndE.fld (.b (by decide +kernel)) (fld_ F "above") (xfld_ F "above")) rfl) SndA.nil)))) SndSs.nil))
omit F in
theorem kwt_turned_over : kwT "turned_over" = [(0, (["row"] : List Str))] := by kernel_rfl
theorem ok_turned_over : FnS R T 6 "turned_over" ["row"] F_turned_over := F.fnS (d := q_turned_over) (Γ := Γ_turned_over) (t := f_turned_over.body) (List.mem_of_getElem? (i := 16) rfl) (by decide +kernel) ⟨rfl, rfl, rfl⟩ sc_turned_over (fun _ _ _ _ _ _ us hl => match us, hl with | [_], _ => rfl) (fun _ _ _ _ _ _ p hp => (kwC rfl (fun us ws e1 e2 => match us, ws, e1, e2 with | [], [_], _, _ => rfl) (kwN rfl) : ∀ p ∈ ([(0, (["row"] : List Str))] : List (Nat × List Str)), KwOk _ ["row"] p.1 p.2) p (by rw [← kwt_turned_over]; exact hp)) (fun _ _ _ h => if_pos h) (s_turned_over F) (fun _ => rfl) fun _ => rfl
end
def f_turned_about : Def := ⟨1, 1,
  [(.ex (.call "need_row" [(.v 0)] [])), (.ret (.mk "Row" [(.rev (.fld (.b 0) "above")), (.rev (.fld (.b 0) "below"))] []))]⟩
noncomputable def Γ_turned_about (ct : CloT) : Env' := { G0 ct with fn := (fun f => if f = "need_row" then F_need_row else fun _ _ _ => .bad), mkc := (fun f => if f = "Row" then mkR "Row" F_RowD_initD else fun _ _ _ => .bad) }
noncomputable def F_turned_about (ct : CloT) (ds : List D) (g : G) : Res := f_turned_about.run (Γ_turned_about ct) ds g
def N_turned_about : List Str := ["row"]
theorem sc_turned_about : FnScope N_turned_about ["row"] (defScope (top 27)) := ⟨rfl, rfl, rfl, (by decide +kernel), rfl, (by decide +kernel), (by decide +kernel)⟩
section
variable {R : RC} {T : Tab} {tt : List (Addr × Addr)} {h : Heap} (F : FX R T tt h)
include F
theorem s_turned_about (ct : CloT) : SndSs R T ⟨N_turned_about, defScope (top 27), 5, true⟩ (Γ_turned_about ct) (defBody (top 27)) f_turned_about.body :=
  (.cons
  (.ex (SndE.call (ok_need_row F) (by kernel_rfl) (by decide +kernel) rfl (by decide +kernel) (.cons (.e (SndE.v (by decide +kernel)) rfl) SndA.nil))) (.cons
  (.ret (SndE.mk (mk_Row F) (by kernel_rfl) (by decide +kernel) rfl (by decide +kernel) (.cons (.e (SndE.rev (.e (SndE.fld (.b (by decide +kernel)) (fld_ F "above") (xfld_ F "above")) rfl)) rfl) (.cons (.e (SndE.rev (.e (SndE.fld (.b (by decide +kernel)) (fld_ F "below") (xfld_ F "below")) rfl)) rfl) SndA.nil)))) SndSs.nil))
omit F in
theorem kwt_turned_about : kwT "turned_about" = [(0, (["row"] : List Str))] := by kernel_rfl
theorem ok_turned_about : FnS R T 6 "turned_about" ["row"] F_turned_about := F.fnS (d := q_turned_about) (Γ := Γ_turned_about) (t := f_turned_about.body) (List.mem_of_getElem? (i := 17) rfl) (by decide +kernel) ⟨rfl, rfl, rfl⟩ sc_turned_about (fun _ _ _ _ _ _ us hl => match us, hl with | [_], _ => rfl) (fun _ _ _ _ _ _ p hp => (kwC rfl (fun us ws e1 e2 => match us, ws, e1, e2 with | [], [_], _, _ => rfl) (kwN rfl) : ∀ p ∈ ([(0, (["row"] : List Str))] : List (Nat × List Str)), KwOk _ ["row"] p.1 p.2) p (by rw [← kwt_turned_about]; exact hp)) (fun _ _ _ h => if_pos h) (s_turned_about F) (fun _ => rfl) fun _ => rfl
end
def f__law_begun : Def := ⟨1, 3,
  [(.own 1 (.comp (.bin .Sub (.bi "abs" [(.b 2)]) (.bin .Pow (.c (.int 10)) (.c (.int 18)))) (.s 2) (.seq (.b 0)) [(.cmp .GtE (.bi "abs" [(.b 2)]) (.bin .Pow (.c (.int 10)) (.c (.int 18))))] [2])), (.rmkd 1 (.comp (.bi "int" [(.bi "abs" [(.b 2)])]) (.s 2) (.seq (.b 0)) [] [2]))]⟩
noncomputable def Γ__law_begun (ct : CloT) : Env' := G0 ct
noncomputable def F__law_begun (ct : CloT) (ds : List D) (g : G) : Res := f__law_begun.run (Γ__law_begun ct) ds g
def N__law_begun : List Str := ["script", "large", "cell"]
theorem sc__law_begun : FnScope N__law_begun ["script"] (defScope (top 29)) := ⟨rfl, rfl, rfl, (by decide +kernel), rfl, (by decide +kernel), (by decide +kernel)⟩
section
variable {R : RC} {T : Tab} {tt : List (Addr × Addr)} {h : Heap} (F : FX R T tt h)
include F
theorem s__law_begun (ct : CloT) : SndSs R T ⟨N__law_begun, defScope (top 29), 0, true⟩ (Γ__law_begun ct) (defBody (top 29)) f__law_begun.body :=
  (.cons
  (SndS.lc (by decide +kernel) rfl rfl (by decide +kernel) (own := [("cell", 2)]) (SndI.seq (.b (by decide +kernel))) (SndB.s (by decide +kernel)) (.one (SndT.cmp (.e (SndE.bi rfl (by decide +kernel) (n_abs F) bo_abs (.cons (.b (by decide +kernel)) SndA.nil)) rfl) (.e (SndE.bin rfl (.e SndE.int rfl) (.e SndE.int rfl)) rfl))) (SndE.bin rfl (.e (SndE.bi rfl (by decide +kernel) (n_abs F) bo_abs (.cons (.b (by decide +kernel)) SndA.nil)) rfl) (.e (SndE.bin rfl (.e SndE.int rfl) (.e SndE.int rfl)) rfl)) (by decide +kernel) rfl (by decide +kernel)) (.cons
  (.mkd1 (by decide +kernel) (SndE.comp (own := [("cell", 2)]) (SndI.seq (.b (by decide +kernel))) (SndB.s (by decide +kernel)) SndC.nil (SndE.ty rfl (by decide +kernel) (n_int F) bo_int (.cons (.e (SndE.bi rfl (by decide +kernel) (n_abs F) bo_abs (.cons (.b (by decide +kernel)) SndA.nil)) rfl) SndA.nil)) (by decide +kernel) rfl (by decide +kernel))) SndSs.nil))
theorem ok__law_begun : FnS R T 1 "_law_begun" ["script"] F__law_begun := F.fnS (d := q__law_begun) (Γ := Γ__law_begun) (t := f__law_begun.body) (List.mem_of_getElem? (i := 18) rfl) (by decide +kernel) ⟨rfl, rfl, rfl⟩ sc__law_begun (fun _ _ _ _ _ _ us hl => match us, hl with | [_], _ => rfl) (fun _ _ _ _ _ _ => kwN (by kernel_rfl)) (fun _ _ _ h => if_pos h) (s__law_begun F) (fun _ => rfl) fun _ => rfl
end
def f__law_mixed : Def := ⟨1, 6,
  [(.dput 0 "turn" (.bin .Add (.dg 0 "turn") (.c (.int 1)))), (.asgs [(.t (.s 2)), (.t (.s 3))] [(.bi "int" [(.dg 0 "turn")]), (.c (.int 0))]), (.loop (.s 1) (.seq (.lst [(.c (.int 2147483629)), (.c (.int 2147483587)), (.c (.int 2147483579)), (.c (.int 2147483563))])) [(.asg (.s 4) (.bin .Mod (.bin .Add (.bin .Mult (.b 2) (.c (.int 69621))) (.bin .FloorDiv (.b 1) (.c (.int 13)))) (.b 1))), (.loop (.s 5) (.seq (.dg 0 "cells")) [(.asg (.s 4) (.bin .Mod (.bin .Add (.bin .Add (.bin .Mult (.b 4) (.c (.int 48271))) (.bi "int" [(.b 5)])) (.c (.int 3))) (.b 1)))]), (.asg (.s 3) (.bin .Add (.bin .Mult (.b 3) (.c (.int 2147483647))) (.bin .Mod (.bin .Pow (.b 4) (.c (.int 5))) (.b 1))))]), (.ret (.v 3))]⟩
noncomputable def Γ__law_mixed (ct : CloT) : Env' := G0 ct
noncomputable def F__law_mixed (ct : CloT) (ds : List D) (g : G) : Res := f__law_mixed.run (Γ__law_mixed ct) ds g
def N__law_mixed : List Str := ["draw", "great", "turn", "found", "blend", "cell"]
theorem sc__law_mixed : FnScope N__law_mixed ["draw"] (defScope (top 30)) := ⟨rfl, rfl, rfl, (by decide +kernel), rfl, (by decide +kernel), (by decide +kernel)⟩
section
variable {R : RC} {T : Tab} {tt : List (Addr × Addr)} {h : Heap} (F : FX R T tt h)
include F
theorem s__law_mixed (ct : CloT) : SndSs R T ⟨N__law_mixed, defScope (top 30), 0, true⟩ (Γ__law_mixed ct) (defBody (top 30)) f__law_mixed.body :=
  (.cons
  (.dput (by decide +kernel) rfl (SndE.bin rfl (.e (SndE.dg (by decide +kernel) rfl) rfl) (.e SndE.int rfl))) (.cons
  (.par2 (by decide +kernel) (by decide +kernel) (by decide +kernel) rfl rfl (.cons (SndE.ty rfl (by decide +kernel) (n_int F) bo_int (.cons (.e (SndE.dg (by decide +kernel) rfl) rfl) SndA.nil)) (.cons SndE.int SndO.nil)) (by intro env he; cases env; cases he; rfl)) (.cons
  (.loop (SndI.seqF (SndE.lst (.cons SndE.int (.cons SndE.int (.cons SndE.int (.cons SndE.int SndD.nil))))) rfl) (SndB.s (by decide +kernel)) (.cons
  (.asg (SndB.s (by decide +kernel)) (SndE.bin rfl (.e (SndE.bin rfl (.e (SndE.bin rfl (.b (by decide +kernel)) (.e SndE.int rfl)) rfl) (.e (SndE.bin rfl (.b (by decide +kernel)) (.e SndE.int rfl)) rfl)) rfl) (.b (by decide +kernel)))) (.cons
  (.loop (SndI.seqF (SndE.dg (by decide +kernel) rfl) rfl) (SndB.s (by decide +kernel)) (.cons
  (.asg (SndB.s (by decide +kernel)) (SndE.bin rfl (.e (SndE.bin rfl (.e (SndE.bin rfl (.e (SndE.bin rfl (.b (by decide +kernel)) (.e SndE.int rfl)) rfl) (.e (SndE.ty rfl (by decide +kernel) (n_int F) bo_int (.cons (.b (by decide +kernel)) SndA.nil)) rfl)) rfl) (.e SndE.int rfl)) rfl) (.b (by decide +kernel)))) SndSs.nil)) (.cons
  (.asg (SndB.s (by decide +kernel)) (SndE.bin rfl (.e (SndE.bin rfl (.b (by decide +kernel)) (.e SndE.int rfl)) rfl) (.e (SndE.bin rfl (.e (SndE.bin rfl (.b (by decide +kernel)) (.e SndE.int rfl)) rfl) (.b (by decide +kernel))) rfl))) SndSs.nil)))) (.cons
  (.ret (SndE.v (by decide +kernel))) SndSs.nil))))
theorem ok__law_mixed : FnS R T 1 "_law_mixed" ["draw"] F__law_mixed := F.fnS (d := q__law_mixed) (Γ := Γ__law_mixed) (t := f__law_mixed.body) (List.mem_of_getElem? (i := 19) rfl) (by decide +kernel) ⟨rfl, rfl, rfl⟩ sc__law_mixed (fun _ _ _ _ _ _ us hl => match us, hl with | [_], _ => rfl) (fun _ _ _ _ _ _ => kwN (by kernel_rfl)) (fun _ _ _ h => if_pos h) (s__law_mixed F) (fun _ => rfl) fun _ => rfl
end
def f__law_take : Def := ⟨2, 3,
  [(.ite (.cmp .Eq (.dg 0 "rest") (.c (.int 0))) [(.dput 0 "rest" (.ite (.dne 0) (.dpop 0) (.call "_law_mixed" [(.v 0)] [])))] []), (.asg (.s 2) (.bin .Mod (.bi "int" [(.dg 0 "rest")]) (.b 1))), (.dput 0 "rest" (.bin .FloorDiv (.bi "int" [(.dg 0 "rest")]) (.b 1))), (.ret (.v 2))]⟩
noncomputable def Γ__law_take (ct : CloT) : Env' := { G0 ct with fn := (fun f => if f = "_law_mixed" then F__law_mixed else fun _ _ _ => .bad) }
noncomputable def F__law_take (ct : CloT) (ds : List D) (g : G) : Res := f__law_take.run (Γ__law_take ct) ds g
def N__law_take : List Str := ["draw", "amount", "found"]
theorem sc__law_take : FnScope N__law_take ["draw", "amount"] (defScope (top 31)) := ⟨rfl, rfl, rfl, (by decide +kernel), rfl, (by decide +kernel), (by decide +kernel)⟩
section
variable {R : RC} {T : Tab} {tt : List (Addr × Addr)} {h : Heap} (F : FX R T tt h)
include F
theorem s__law_take (ct : CloT) : SndSs R T ⟨N__law_take, defScope (top 31), 1, true⟩ (Γ__law_take ct) (defBody (top 31)) f__law_take.body :=
  (.cons
  (.ite (SndT.cmp (.e (SndE.dg (by decide +kernel) rfl) rfl) (.e SndE.int rfl)) (.cons
  (.dput (by decide +kernel) rfl (SndE.ite (SndT.ofCmp (SndE.dne (by decide +kernel))) (SndE.dpop (by decide +kernel)) (SndE.call (ok__law_mixed F) (by kernel_rfl) (by decide +kernel) rfl (by decide +kernel) (.cons (.e (SndE.v (by decide +kernel)) rfl) SndA.nil)))) SndSs.nil) SndSs.nil) (.cons
  (.asg (SndB.s (by decide +kernel)) (SndE.bin rfl (.e (SndE.ty rfl (by decide +kernel) (n_int F) bo_int (.cons (.e (SndE.dg (by decide +kernel) rfl) rfl) SndA.nil)) rfl) (.b (by decide +kernel)))) (.cons
  (.dput (by decide +kernel) rfl (SndE.bin rfl (.e (SndE.ty rfl (by decide +kernel) (n_int F) bo_int (.cons (.e (SndE.dg (by decide +kernel) rfl) rfl) SndA.nil)) rfl) (.b (by decide +kernel)))) (.cons
  (.ret (SndE.v (by decide +kernel))) SndSs.nil))))
theorem ok__law_take : FnS R T 2 "_law_take" ["draw", "amount"] F__law_take := F.fnS (d := q__law_take) (Γ := Γ__law_take) (t := f__law_take.body) (List.mem_of_getElem? (i := 20) rfl) (by decide +kernel) ⟨rfl, rfl, rfl⟩ sc__law_take (fun _ _ _ _ _ _ us hl => match us, hl with | [_, _], _ => rfl) (fun _ _ _ _ _ _ => kwN (by kernel_rfl)) (fun _ _ _ h => if_pos h) (s__law_take F) (fun _ => rfl) fun _ => rfl
end
def f__law_pick : Def := ⟨2, 2,
  [(.ret (.idx (.b 1) (.call "_law_take" [(.v 0), (.bi "len" [(.b 1)])] [])))]⟩
noncomputable def Γ__law_pick (ct : CloT) : Env' := { G0 ct with fn := (fun f => if f = "_law_take" then F__law_take else fun _ _ _ => .bad) }
noncomputable def F__law_pick (ct : CloT) (ds : List D) (g : G) : Res := f__law_pick.run (Γ__law_pick ct) ds g
def N__law_pick : List Str := ["draw", "some"]
theorem sc__law_pick : FnScope N__law_pick ["draw", "some"] (defScope (top 32)) := ⟨rfl, rfl, rfl, (by decide +kernel), rfl, (by decide +kernel), (by decide +kernel)⟩
section
variable {R : RC} {T : Tab} {tt : List (Addr × Addr)} {h : Heap} (F : FX R T tt h)
include F
theorem s__law_pick (ct : CloT) : SndSs R T ⟨N__law_pick, defScope (top 32), 2, true⟩ (Γ__law_pick ct) (defBody (top 32)) f__law_pick.body :=
  (.cons
  (.ret (SndE.idx (.b (by decide +kernel)) (.e (SndE.call (ok__law_take F) (by kernel_rfl) (by decide +kernel) rfl (by decide +kernel) (.cons (.e (SndE.v (by decide +kernel)) rfl) (.cons (.e (SndE.bi rfl (by decide +kernel) (n_len F) bo_len (.cons (.b (by decide +kernel)) SndA.nil)) rfl) SndA.nil))) rfl))) SndSs.nil)
theorem ok__law_pick : FnS R T 3 "_law_pick" ["draw", "some"] F__law_pick := F.fnS (d := q__law_pick) (Γ := Γ__law_pick) (t := f__law_pick.body) (List.mem_of_getElem? (i := 21) rfl) (by decide +kernel) ⟨rfl, rfl, rfl⟩ sc__law_pick (fun _ _ _ _ _ _ us hl => match us, hl with | [_, _], _ => rfl) (fun _ _ _ _ _ _ => kwN (by kernel_rfl)) (fun _ _ _ h => if_pos h) (s__law_pick F) (fun _ => rfl) fun _ => rfl
end
def f__law_shuffled : Def := ⟨2, 4,
  [(.asgs [(.o 2), (.o 3)] [(.bi "list" [(.b 1)]), (.lst [])]), (.whl (.cmp .NotEq (.b 2) (.lst [])) [(.apop 3 2 [(.call "_law_take" [(.v 0), (.bi "len" [(.b 2)])] [])])]), (.ret (.o 3))]⟩
noncomputable def Γ__law_shuffled (ct : CloT) : Env' := { G0 ct with fn := (fun f => if f = "_law_take" then F__law_take else fun _ _ _ => .bad) }
noncomputable def F__law_shuffled (ct : CloT) (ds : List D) (g : G) : Res := f__law_shuffled.run (Γ__law_shuffled ct) ds g
def N__law_shuffled : List Str := ["draw", "some", "left", "found"]
theorem sc__law_shuffled : FnScope N__law_shuffled ["draw", "some"] (defScope (top 33)) := ⟨rfl, rfl, rfl, (by decide +kernel), rfl, (by decide +kernel), (by decide +kernel)⟩
section
variable {R : RC} {T : Tab} {tt : List (Addr × Addr)} {h : Heap} (F : FX R T tt h)
include F
theorem s__law_shuffled (ct : CloT) : SndSs R T ⟨N__law_shuffled, defScope (top 33), 2, true⟩ (Γ__law_shuffled ct) (defBody (top 33)) f__law_shuffled.body :=
  (.cons
  (.par2 (by decide +kernel) (by decide +kernel) (by decide +kernel) rfl rfl (.cons (SndE.ty rfl (by decide +kernel) (n_list F) bo_list (.cons (.b (by decide +kernel)) SndA.nil)) (.cons (SndE.lst SndD.nil) SndO.nil)) (by intro env he; cases env; cases he; rfl)) (.cons
  (.whl (SndT.cmp (.b (by decide +kernel)) (.e (SndE.lst SndD.nil) rfl)) (.cons
  (.apop (by decide +kernel) (SndM.pop1 (by decide +kernel) (.cons (.e (SndE.call (ok__law_take F) (by kernel_rfl) (by decide +kernel) rfl (by decide +kernel) (.cons (.e (SndE.v (by decide +kernel)) rfl) (.cons (.e (SndE.bi rfl (by decide +kernel) (n_len F) bo_len (.cons (.b (by decide +kernel)) SndA.nil)) rfl) SndA.nil))) rfl) SndA.nil))) SndSs.nil)) (.cons
  (.retO (by decide +kernel)) SndSs.nil)))
theorem ok__law_shuffled : FnS R T 3 "_law_shuffled" ["draw", "some"] F__law_shuffled := F.fnS (d := q__law_shuffled) (Γ := Γ__law_shuffled) (t := f__law_shuffled.body) (List.mem_of_getElem? (i := 22) rfl) (by decide +kernel) ⟨rfl, rfl, rfl⟩ sc__law_shuffled (fun _ _ _ _ _ _ us hl => match us, hl with | [_, _], _ => rfl) (fun _ _ _ _ _ _ => kwN (by kernel_rfl)) (fun _ _ _ h => if_pos h) (s__law_shuffled F) (fun _ => rfl) fun _ => rfl
end
def f__law_caught : Def := ⟨1, 3,
  [(.asg (.s 1) (.c .non)), (.catch 1 2 (.cv (.v 0) [] ([] : List Str))), (.ret (.v 1))]⟩
noncomputable def Γ__law_caught (ct : CloT) : Env' := { G0 ct with vals := [] }
noncomputable def F__law_caught (ct : CloT) (ds : List D) (g : G) : Res := f__law_caught.run (Γ__law_caught ct) ds g
def N__law_caught : List Str := ["work", "caught", "error"]
theorem sc__law_caught : FnScope N__law_caught ["work"] (defScope (top 34)) := ⟨rfl, rfl, rfl, (by decide +kernel), rfl, (by decide +kernel), (by decide +kernel)⟩
section
variable {R : RC} {T : Tab} {tt : List (Addr × Addr)} {h : Heap} (F : FX R T tt h)
include F
theorem VALS__law_caught {kk : Nat} (hk : 0 ≤ kk) (ct : CloT) : ∀ y, (Γ__law_caught ct).vals.contains y = true → ∃ (k : Nat) (F : CloT → List D → G → Res), FnS R T k y ((Γ__law_caught ct).par y) F ∧ (Γ__law_caught ct).fn y = F ∧ k ≤ kk := eqs0
theorem s__law_caught (ct : CloT) : SndSs R T ⟨N__law_caught, defScope (top 34), 7, true⟩ (Γ__law_caught ct) (defBody (top 34)) f__law_caught.body :=
  (.cons
  (.asg (SndB.s (by decide +kernel)) SndE.non) (.cons
  (.catch (by decide +kernel) (by decide +kernel) (by decide +kernel) (by decide +kernel) (by decide +kernel) (by decide +kernel) (errs_RowError F) (SndE.cvF F (by decide +kernel) SndK.no rfl (by decide +kernel) (VALS__law_caught F (by decide +kernel) ct) (by kernel_rfl))) (.cons
  (.ret (SndE.v (by decide +kernel))) SndSs.nil)))
theorem ok__law_caught : FnS R T 8 "_law_caught" ["work"] F__law_caught := F.fnS (d := q__law_caught) (Γ := Γ__law_caught) (t := f__law_caught.body) (List.mem_of_getElem? (i := 23) rfl) (by decide +kernel) ⟨rfl, rfl, rfl⟩ sc__law_caught (fun _ _ _ _ _ _ us hl => match us, hl with | [_], _ => rfl) (fun _ _ _ _ _ _ => kwN (by kernel_rfl)) (fun _ _ _ h => if_pos h) (s__law_caught F) (fun _ => rfl) fun _ => rfl
end
def f__law_says : Def := ⟨2, 2,
  [(.ret (.ite (.v 1) (.cmp .Is (.b 0) (.c (.bl true))) (.cmp .Is (.b 0) (.c (.bl false)))))]⟩
noncomputable def Γ__law_says (ct : CloT) : Env' := G0 ct
noncomputable def F__law_says (ct : CloT) (ds : List D) (g : G) : Res := f__law_says.run (Γ__law_says ct) ds g
def N__law_says : List Str := ["found", "due"]
theorem sc__law_says : FnScope N__law_says ["found", "due"] (defScope (top 35)) := ⟨rfl, rfl, rfl, (by decide +kernel), rfl, (by decide +kernel), (by decide +kernel)⟩
section
variable {R : RC} {T : Tab} {tt : List (Addr × Addr)} {h : Heap} (F : FX R T tt h)
include F
theorem s__law_says (ct : CloT) : SndSs R T ⟨N__law_says, defScope (top 35), 0, true⟩ (Γ__law_says ct) (defBody (top 35)) f__law_says.body :=
  (.cons
  (.ret (SndE.ite (SndT.val (SndE.v (by decide +kernel))) (SndE.cmp (.b (by decide +kernel)) (.e SndE.bl rfl)) (SndE.cmp (.b (by decide +kernel)) (.e SndE.bl rfl)))) SndSs.nil)
theorem ok__law_says : FnS R T 1 "_law_says" ["found", "due"] F__law_says := F.fnS (d := q__law_says) (Γ := Γ__law_says) (t := f__law_says.body) (List.mem_of_getElem? (i := 24) rfl) (by decide +kernel) ⟨rfl, rfl, rfl⟩ sc__law_says (fun _ _ _ _ _ _ us hl => match us, hl with | [_, _], _ => rfl) (fun _ _ _ _ _ _ => kwN (by kernel_rfl)) (fun _ _ _ h => if_pos h) (s__law_says F) (fun _ => rfl) fun _ => rfl
end
def f__law_is_number : Def := ⟨1, 1,
  [(.ret (.and (.bi "isinstance" [(.b 0), (.bty "int")]) (.not (.bi "isinstance" [(.b 0), (.bty "bool")]))))]⟩
noncomputable def Γ__law_is_number (ct : CloT) : Env' := G0 ct
noncomputable def F__law_is_number (ct : CloT) (ds : List D) (g : G) : Res := f__law_is_number.run (Γ__law_is_number ct) ds g
def N__law_is_number : List Str := ["thing"]
theorem sc__law_is_number : FnScope N__law_is_number ["thing"] (defScope (top 36)) := ⟨rfl, rfl, rfl, (by decide +kernel), rfl, (by decide +kernel), (by decide +kernel)⟩
section
variable {R : RC} {T : Tab} {tt : List (Addr × Addr)} {h : Heap} (F : FX R T tt h)
include F
theorem s__law_is_number (ct : CloT) : SndSs R T ⟨N__law_is_number, defScope (top 36), 0, true⟩ (Γ__law_is_number ct) (defBody (top 36)) f__law_is_number.body :=
  (.cons
  (.ret (SndE.and (SndE.bi rfl (by decide +kernel) (n_isinstance F) bo_isinstance (.cons (.b (by decide +kernel)) (.cons (.e (SndE.bty (by decide +kernel) (n_int F) bo_int) rfl) SndA.nil))) (SndE.one (SndE.not (SndE.bi rfl (by decide +kernel) (n_isinstance F) bo_isinstance (.cons (.b (by decide +kernel)) (.cons (.e (SndE.bty (by decide +kernel) (n_bool F) bo_bool) rfl) SndA.nil))))))) SndSs.nil)
theorem ok__law_is_number : FnS R T 1 "_law_is_number" ["thing"] F__law_is_number := F.fnS (d := q__law_is_number) (Γ := Γ__law_is_number) (t := f__law_is_number.body) (List.mem_of_getElem? (i := 25) rfl) (by decide +kernel) ⟨rfl, rfl, rfl⟩ sc__law_is_number (fun _ _ _ _ _ _ us hl => match us, hl with | [_], _ => rfl) (fun _ _ _ _ _ _ => kwN (by kernel_rfl)) (fun _ _ _ h => if_pos h) (s__law_is_number F) (fun _ => rfl) fun _ => rfl
end
def f__law_pair : Def := ⟨2, 7,
  [(.asg (.s 2) (.bin .Add (.c (.int 2)) (.call "_law_take" [(.v 0), (.bin .Sub (.b 1) (.c (.int 1)))] []))), (.asg (.s 3) (.call "_law_pick" [(.v 0), (.lst [(.col "list" (.rng [(.b 2)])), (.call "_law_shuffled" [(.v 0), (.col "list" (.rng [(.b 2)]))] [])])] [])), (.asg (.s 4) (.call "_law_take" [(.v 0), (.c (.int 6))] [])), (.own 5 (.ite (.cmp .Eq (.b 4) (.c (.int 0))) (.rev (.b 3)) (.call "_law_shuffled" [(.v 0), (.v 3)] []))), (.ite (.cmp .Eq (.b 4) (.c (.int 1))) [(.own 5 (.bin .Add (.slc (.b 3) (.c (.int 1)) .no) (.slc (.b 3) .no (.c (.int 1)))))] []), (.ite (.cmp .Eq (.b 4) (.c (.int 2))) [(.asg (.s 6) (.call "_law_take" [(.v 0), (.bin .Sub (.b 2) (.c (.int 1)))] [])), (.own 5 (.bi "list" [(.b 3)])), (.asgs [(.p 5 (.v 6)), (.p 5 (.bin .Add (.b 6) (.c (.int 1))))] [(.idx (.b 5) (.bin .Add (.b 6) (.c (.int 1)))), (.idx (.b 5) (.b 6))])] []), (.ret (.tup [(.bi "tuple" [(.b 3)]), (.bi "tuple" [(.b 5)])]))]⟩
noncomputable def Γ__law_pair (ct : CloT) : Env' := { G0 ct with fn := (fun f => if f = "_law_take" then F__law_take else if f = "_law_pick" then F__law_pick else if f = "_law_shuffled" then F__law_shuffled else fun _ _ _ => .bad) }
noncomputable def F__law_pair (ct : CloT) (ds : List D) (g : G) : Res := f__law_pair.run (Γ__law_pair ct) ds g
def N__law_pair : List Str := ["draw", "most", "many", "above", "way", "below", "spot"]
theorem sc__law_pair : FnScope N__law_pair ["draw", "most"] (defScope (top 37)) := ⟨rfl, rfl, rfl, (by decide +kernel), rfl, (by decide +kernel), (by decide +kernel)⟩
section
variable {R : RC} {T : Tab} {tt : List (Addr × Addr)} {h : Heap} (F : FX R T tt h)
include F
theorem s__law_pair (ct : CloT) : SndSs R T ⟨N__law_pair, defScope (top 37), 3, true⟩ (Γ__law_pair ct) (defBody (top 37)) f__law_pair.body :=
  (.cons
  (.asg (SndB.s (by decide +kernel)) (SndE.bin rfl (.e SndE.int rfl) (.e (SndE.call (ok__law_take F) (by kernel_rfl) (by decide +kernel) rfl (by decide +kernel) (.cons (.e (SndE.v (by decide +kernel)) rfl) (.cons (.e (SndE.bin rfl (.b (by decide +kernel)) (.e SndE.int rfl)) rfl) SndA.nil))) rfl))) (.cons
  (.asg (SndB.s (by decide +kernel)) (SndE.call (ok__law_pick F) (by kernel_rfl) (by decide +kernel) rfl (by decide +kernel) (.cons (.e (SndE.v (by decide +kernel)) rfl) (.cons (.e (SndE.lst (.cons (SndE.colL (by decide +kernel) (n_list F) (by decide +kernel) (SndR.one (by decide +kernel) (n_range F) (.b (by decide +kernel)))) (.cons (SndE.call (ok__law_shuffled F) (by kernel_rfl) (by decide +kernel) rfl (by decide +kernel) (.cons (.e (SndE.v (by decide +kernel)) rfl) (.cons (.e (SndE.colL (by decide +kernel) (n_list F) (by decide +kernel) (SndR.one (by decide +kernel) (n_range F) (.b (by decide +kernel)))) rfl) SndA.nil))) SndD.nil))) rfl) SndA.nil)))) (.cons
  (.asg (SndB.s (by decide +kernel)) (SndE.call (ok__law_take F) (by kernel_rfl) (by decide +kernel) rfl (by decide +kernel) (.cons (.e (SndE.v (by decide +kernel)) rfl) (.cons (.e SndE.int rfl) SndA.nil)))) (.cons
  (.own (by decide +kernel) (SndE.ite (SndT.cmp (.b (by decide +kernel)) (.e SndE.int rfl)) (SndE.rev (.b (by decide +kernel))) (SndE.call (ok__law_shuffled F) (by kernel_rfl) (by decide +kernel) rfl (by decide +kernel) (.cons (.e (SndE.v (by decide +kernel)) rfl) (.cons (.e (SndE.v (by decide +kernel)) rfl) SndA.nil))))) (.cons
  (.ite (SndT.cmp (.b (by decide +kernel)) (.e SndE.int rfl)) (.cons
  (.own (by decide +kernel) (SndE.bin rfl (.e (SndE.slc (.b (by decide +kernel)) (.e SndE.int rfl) SndP.no) rfl) (.e (SndE.slc (.b (by decide +kernel)) SndP.no (.e SndE.int rfl)) rfl))) SndSs.nil) SndSs.nil) (.cons
  (.ite (SndT.cmp (.b (by decide +kernel)) (.e SndE.int rfl)) (.cons
  (.asg (SndB.s (by decide +kernel)) (SndE.call (ok__law_take F) (by kernel_rfl) (by decide +kernel) rfl (by decide +kernel) (.cons (.e (SndE.v (by decide +kernel)) rfl) (.cons (.e (SndE.bin rfl (.b (by decide +kernel)) (.e SndE.int rfl)) rfl) SndA.nil)))) (.cons
  (.own (by decide +kernel) (SndE.ty rfl (by decide +kernel) (n_list F) bo_list (.cons (.b (by decide +kernel)) SndA.nil))) (.cons
  (.parP (SndTs.item (by decide +kernel) (SndE.v (by decide +kernel)) (SndTs.item (by decide +kernel) (SndE.bin rfl (.b (by decide +kernel)) (.e SndE.int rfl)) SndTs.nil)) rfl rfl (by decide +kernel) (.cons (SndE.idx (.b (by decide +kernel)) (.e (SndE.bin rfl (.b (by decide +kernel)) (.e SndE.int rfl)) rfl)) (.cons (SndE.idx (.b (by decide +kernel)) (.b (by decide +kernel))) SndO.nil)) (by intro env he; cases env; cases he; rfl)) SndSs.nil))) SndSs.nil) (.cons
  (.ret (SndE.tup (.cons (SndE.ty rfl (by decide +kernel) (n_tuple F) bo_tuple (.cons (.b (by decide +kernel)) SndA.nil)) (.cons (SndE.ty rfl (by decide +kernel) (n_tuple F) bo_tuple (.cons (.b (by decide +kernel)) SndA.nil)) SndD.nil)))) SndSs.nil)))))))
theorem ok__law_pair : FnS R T 4 "_law_pair" ["draw", "most"] F__law_pair := F.fnS (d := q__law_pair) (Γ := Γ__law_pair) (t := f__law_pair.body) (List.mem_of_getElem? (i := 26) rfl) (by decide +kernel) ⟨rfl, rfl, rfl⟩ sc__law_pair (fun _ _ _ _ _ _ us hl => match us, hl with | [_, _], _ => rfl) (fun _ _ _ _ _ _ => kwN (by kernel_rfl)) (fun _ _ _ h => if_pos h) (s__law_pair F) (fun _ => rfl) fun _ => rfl
end
def f__law_shape : Def := ⟨2, 3,
  [(.ret (.bi "tuple" [(.comp (.mt "index" (.b 0) [(.b 2)]) (.s 2) (.seq (.b 1)) [] [2])]))]⟩
noncomputable def Γ__law_shape (ct : CloT) : Env' := G0 ct
noncomputable def F__law_shape (ct : CloT) (ds : List D) (g : G) : Res := f__law_shape.run (Γ__law_shape ct) ds g
def N__law_shape : List Str := ["above", "below", "letter"]
theorem sc__law_shape : FnScope N__law_shape ["above", "below"] (defScope (top 38)) := ⟨rfl, rfl, rfl, (by decide +kernel), rfl, (by decide +kernel), (by decide +kernel)⟩
section
variable {R : RC} {T : Tab} {tt : List (Addr × Addr)} {h : Heap} (F : FX R T tt h)
include F
theorem s__law_shape (ct : CloT) : SndSs R T ⟨N__law_shape, defScope (top 38), 0, true⟩ (Γ__law_shape ct) (defBody (top 38)) f__law_shape.body :=
  (.cons
  (.ret (SndE.ty rfl (by decide +kernel) (n_tuple F) bo_tuple (.cons (.e (SndE.comp (own := [("letter", 2)]) (SndI.seq (.b (by decide +kernel))) (SndB.s (by decide +kernel)) SndC.nil (SndE.mt (.inl ⟨rfl, rfl⟩) (.b (by decide +kernel)) (.cons (.b (by decide +kernel)) SndA.nil)) (by decide +kernel) rfl (by decide +kernel)) rfl) SndA.nil))) SndSs.nil)
theorem ok__law_shape : FnS R T 1 "_law_shape" ["above", "below"] F__law_shape := F.fnS (d := q__law_shape) (Γ := Γ__law_shape) (t := f__law_shape.body) (List.mem_of_getElem? (i := 27) rfl) (by decide +kernel) ⟨rfl, rfl, rfl⟩ sc__law_shape (fun _ _ _ _ _ _ us hl => match us, hl with | [_, _], _ => rfl) (fun _ _ _ _ _ _ => kwN (by kernel_rfl)) (fun _ _ _ h => if_pos h) (s__law_shape F) (fun _ => rfl) fun _ => rfl
end
def f__law_word : Def := ⟨1, 1,
  [(.ite (.isc (.v 0) "BadRow") [(.ret (.bin .Add (.c (.str "row ")) (.bi "repr" [(.fld (.b 0) "part")])))] []), (.ret (.ite (.isc (.v 0) "BadShape") (.c (.str "shape")) (.ite (.isc (.v 0) "BadLetters") (.c (.str "letters")) (.c (.str "other")))))]⟩
noncomputable def Γ__law_word (ct : CloT) : Env' := G0 ct
noncomputable def F__law_word (ct : CloT) (ds : List D) (g : G) : Res := f__law_word.run (Γ__law_word ct) ds g
def N__law_word : List Str := ["error"]
theorem sc__law_word : FnScope N__law_word ["error"] (defScope (top 39)) := ⟨rfl, rfl, rfl, (by decide +kernel), rfl, (by decide +kernel), (by decide +kernel)⟩
section
variable {R : RC} {T : Tab} {tt : List (Addr × Addr)} {h : Heap} (F : FX R T tt h)
include F
theorem s__law_word (ct : CloT) : SndSs R T ⟨N__law_word, defScope (top 39), 0, true⟩ (Γ__law_word ct) (defBody (top 39)) f__law_word.body :=
  (.cons
  (.ite (SndT.val (SndE.isc (by decide +kernel) (n_isinstance F) bo_isinstance (by decide +kernel) (g_BadRow F) (isc_BadRow F rfl rfl) (SndE.v (by decide +kernel)))) (.cons
  (.ret (SndE.bin rfl (.e SndE.str rfl) (.e (SndE.bi rfl (by decide +kernel) (n_repr F) bo_repr (.cons (.e (SndE.fld (.b (by decide +kernel)) (fld_ F "part") (xfld_ F "part")) rfl) SndA.nil)) rfl))) SndSs.nil) SndSs.nil) (.cons
  (.ret (SndE.ite (SndT.val (SndE.isc (by decide +kernel) (n_isinstance F) bo_isinstance (by decide +kernel) (g_BadShape F) (isc_BadShape F rfl rfl) (SndE.v (by decide +kernel)))) SndE.str (SndE.ite (SndT.val (SndE.isc (by decide +kernel) (n_isinstance F) bo_isinstance (by decide +kernel) (g_BadLetters F) (isc_BadLetters F rfl rfl) (SndE.v (by decide +kernel)))) SndE.str SndE.str))) SndSs.nil))
theorem ok__law_word : FnS R T 1 "_law_word" ["error"] F__law_word := F.fnS (d := q__law_word) (Γ := Γ__law_word) (t := f__law_word.body) (List.mem_of_getElem? (i := 28) rfl) (by decide +kernel) ⟨rfl, rfl, rfl⟩ sc__law_word (fun _ _ _ _ _ _ us hl => match us, hl with | [_], _ => rfl) (fun _ _ _ _ _ _ => kwN (by kernel_rfl)) (fun _ _ _ h => if_pos h) (s__law_word F) (fun _ => rfl) fun _ => rfl
end
def f__law_is_shape : Def := ⟨1, 2,
  [(.ite (.or (.not (.bi "isinstance" [(.b 0), (.bty "tuple")])) (.or (.not (.chn .LtE .LtE (.c (.int 2)) (.bi "len" [(.b 0)]) (.c (.int 8)))) (.cmp .NotEq (.comp (.c (.int 1)) (.s 1) (.seq (.b 0)) [(.not (.call "_law_is_number" [(.v 1)] []))] [1]) (.lst [])))) [(.ret (.c (.bl false)))] []), (.ret (.cmp .Eq (.bi "sorted" [(.b 0)]) (.col "list" (.rng [(.bi "len" [(.b 0)])]))))]⟩
noncomputable def Γ__law_is_shape (ct : CloT) : Env' := { G0 ct with fn := (fun f => if f = "_law_is_number" then F__law_is_number else fun _ _ _ => .bad) }
noncomputable def F__law_is_shape (ct : CloT) (ds : List D) (g : G) : Res := f__law_is_shape.run (Γ__law_is_shape ct) ds g
def N__law_is_shape : List Str := ["thing", "spot"]
theorem sc__law_is_shape : FnScope N__law_is_shape ["thing"] (defScope (top 40)) := ⟨rfl, rfl, rfl, (by decide +kernel), rfl, (by decide +kernel), (by decide +kernel)⟩
section
variable {R : RC} {T : Tab} {tt : List (Addr × Addr)} {h : Heap} (F : FX R T tt h)
include F
theorem s__law_is_shape (ct : CloT) : SndSs R T ⟨N__law_is_shape, defScope (top 40), 1, true⟩ (Γ__law_is_shape ct) (defBody (top 40)) f__law_is_shape.body :=
  (.cons
  (.ite (SndT.w (SndW.or (SndT.not (SndT.val (SndE.bi rfl (by decide +kernel) (n_isinstance F) bo_isinstance (.cons (.b (by decide +kernel)) (.cons (.e (SndE.bty (by decide +kernel) (n_tuple F) bo_tuple) rfl) SndA.nil))))) (SndW.or (SndT.not (SndT.chn SndE.int (SndE.bi rfl (by decide +kernel) (n_len F) bo_len (.cons (.b (by decide +kernel)) SndA.nil)) SndE.int)) (SndW.or1 (SndT.cmp (.e (SndE.comp (own := [("spot", 1)]) (SndI.seq (.b (by decide +kernel))) (SndB.s (by decide +kernel)) (.one (SndT.not (SndT.val (SndE.call (ok__law_is_number F) (by kernel_rfl) (by decide +kernel) rfl (by decide +kernel) (.cons (.e (SndE.v (by decide +kernel)) rfl) SndA.nil))))) SndE.int (by decide +kernel) rfl (by decide +kernel)) rfl) (.e (SndE.lst SndD.nil) rfl)))))) (.cons
  (.ret SndE.bl) SndSs.nil) SndSs.nil) (.cons
  (.ret (SndE.cmp (.e (SndE.bi rfl (by decide +kernel) (n_sorted F) bo_sorted (.cons (.b (by decide +kernel)) SndA.nil)) rfl) (.e (SndE.colL (by decide +kernel) (n_list F) (by decide +kernel) (SndR.one (by decide +kernel) (n_range F) (.e (SndE.bi rfl (by decide +kernel) (n_len F) bo_len (.cons (.b (by decide +kernel)) SndA.nil)) rfl))) rfl))) SndSs.nil))
theorem ok__law_is_shape : FnS R T 2 "_law_is_shape" ["thing"] F__law_is_shape := F.fnS (d := q__law_is_shape) (Γ := Γ__law_is_shape) (t := f__law_is_shape.body) (List.mem_of_getElem? (i := 29) rfl) (by decide +kernel) ⟨rfl, rfl, rfl⟩ sc__law_is_shape (fun _ _ _ _ _ _ us hl => match us, hl with | [_], _ => rfl) (fun _ _ _ _ _ _ => kwN (by kernel_rfl)) (fun _ _ _ h => if_pos h) (s__law_is_shape F) (fun _ => rfl) fun _ => rfl
end
def f__law_pair_of : Def := ⟨1, 1,
  [(.ret (.tup [(.fld (.b 0) "above"), (.fld (.b 0) "below")]))]⟩
noncomputable def Γ__law_pair_of (ct : CloT) : Env' := G0 ct
noncomputable def F__law_pair_of (ct : CloT) (ds : List D) (g : G) : Res := f__law_pair_of.run (Γ__law_pair_of ct) ds g
def N__law_pair_of : List Str := ["row"]
theorem sc__law_pair_of : FnScope N__law_pair_of ["row"] (defScope (top 41)) := ⟨rfl, rfl, rfl, (by decide +kernel), rfl, (by decide +kernel), (by decide +kernel)⟩
section
variable {R : RC} {T : Tab} {tt : List (Addr × Addr)} {h : Heap} (F : FX R T tt h)
include F
theorem s__law_pair_of (ct : CloT) : SndSs R T ⟨N__law_pair_of, defScope (top 41), 0, true⟩ (Γ__law_pair_of ct) (defBody (top 41)) f__law_pair_of.body :=
  (.cons
  (.ret (SndE.tup (.cons (SndE.fld (.b (by decide +kernel)) (fld_ F "above") (xfld_ F "above")) (.cons (SndE.fld (.b (by decide +kernel)) (fld_ F "below") (xfld_ F "below")) SndD.nil)))) SndSs.nil)
theorem ok__law_pair_of : FnS R T 1 "_law_pair_of" ["row"] F__law_pair_of := F.fnS (d := q__law_pair_of) (Γ := Γ__law_pair_of) (t := f__law_pair_of.body) (List.mem_of_getElem? (i := 30) rfl) (by decide +kernel) ⟨rfl, rfl, rfl⟩ sc__law_pair_of (fun _ _ _ _ _ _ us hl => match us, hl with | [_], _ => rfl) (fun _ _ _ _ _ _ => kwN (by kernel_rfl)) (fun _ _ _ h => if_pos h) (s__law_pair_of F) (fun _ => rfl) fun _ => rfl
end
def f__law_right : Def := ⟨3, 12,
  [(.asgs [(.t (.s 6)), (.t (.s 7)), (.t (.s 8))] [(.mk "Row" [(.v 1), (.v 2)] []), (.bi "len" [(.b 1)]), (.call "_law_shape" [(.v 1), (.v 2)] [])]), (.ite (.cmp .NotEq (.bi "repr" [(.lst [(.call "shape_of" [(.v 6)] []), (.call "shape_of" [(.v 6)] [0])])]) (.bi "repr" [(.lst [(.v 8), (.v 8)])])) [(.ret (.c (.bl false)))] []), (.loop (.s 3) (.seq (.lst [(.call "row_of_shape" [(.v 8)] []), (.call "row_of_shape" [(.v 8)] [0])])) [(.ite (.or (.cmp .NotEq (.call "_law_pair_of" [(.v 3)] []) (.tup [(.col "tuple" (.rng [(.b 7)])), (.v 8)])) (.cmp .NotEq (.call "shape_of" [(.v 3)] []) (.b 8))) [(.ret (.c (.bl false)))] [])]), (.asg (.s 4) (.call "_law_shuffled" [(.v 0), (.col "list" (.rng [(.b 7)]))] [])), (.asg (.s 5) (.tup [(.bi "tuple" [(.comp (.idx (.b 4) (.b 11)) (.s 11) (.seq (.b 1)) [] [11])]), (.bi "tuple" [(.comp (.idx (.b 4) (.b 11)) (.s 11) (.seq (.b 2)) [] [11])])])), (.loop (.s 3) (.seq (.lst [(.call "renamed" [(.v 6), (.v 4)] []), (.call "renamed" [(.bi "tuple" [(.b 4)]), (.v 6)] [1, 0])])) [(.ite (.or (.cmp .NotEq (.bi "repr" [(.call "_law_pair_of" [(.v 3)] [])]) (.bi "repr" [(.b 5)])) (.cmp .NotEq (.call "shape_of" [(.v 3)] []) (.b 8))) [(.ret (.c (.bl false)))] [])]), (.loop (.t [(.s 9), (.s 10)]) (.seq (.lst [(.tup [(.g "turned_over" (.fn "turned_over")), (.tup [(.v 2), (.v 1)])]), (.tup [(.g "turned_about" (.fn "turned_about")), (.tup [(.rev (.b 1)), (.rev (.b 2))])])])) [(.asg (.s 3) (.cv (.v 9) [(.v 6)] ([] : List Str))), (.ite (.or (.cmp .NotEq (.bi "repr" [(.call "_law_pair_of" [(.v 3)] [])]) (.bi "repr" [(.b 10)])) (.or (.eqi true (.cv (.v 9) [(.v 6)] (["row"] : List Str)) (.v 3)) (.or (.eqi true (.cv (.v 9) [(.v 3)] ([] : List Str)) (.v 6)) (.cmp .NotEq (.call "is_whole" [(.v 3)] []) (.call "is_whole" [(.v 6)] []))))) [(.ret (.c (.bl false)))] [])]), (.ret (.eqi false (.call "turned_over" [(.call "turned_about" [(.v 6)] [])] []) (.call "turned_about" [(.call "turned_over" [(.v 6)] [])] [])))]⟩
noncomputable def Γ__law_right (ct : CloT) : Env' := { G0 ct with fn := (fun f => if f = "_law_shape" then F__law_shape else if f = "shape_of" then F_shape_of else if f = "row_of_shape" then F_row_of_shape else if f = "_law_pair_of" then F__law_pair_of else if f = "_law_shuffled" then F__law_shuffled else if f = "renamed" then F_renamed else if f = "is_whole" then F_is_whole else if f = "turned_over" then F_turned_over else if f = "turned_about" then F_turned_about else if f = "Row.__eq__" then F_RowD_eqD else fun _ _ _ => .bad), mkc := (fun f => if f = "Row" then mkR "Row" F_RowD_initD else fun _ _ _ => .bad), eqs := ["Row"], vals := ["turned_over", "turned_about"] }
noncomputable def F__law_right (ct : CloT) (ds : List D) (g : G) : Res := f__law_right.run (Γ__law_right ct) ds g
def N__law_right : List Str := ["draw", "above", "below", "there", "names", "led", "row", "many", "due", "work", "wanted", "letter"]
theorem sc__law_right : FnScope N__law_right ["draw", "above", "below"] (defScope (top 42)) := ⟨rfl, rfl, rfl, (by decide +kernel), rfl, (by decide +kernel), (by decide +kernel)⟩
section
variable {R : RC} {T : Tab} {tt : List (Addr × Addr)} {h : Heap} (F : FX R T tt h)
include F
theorem EQS__law_right {kk : Nat} (hk : 2 ≤ kk) (ct : CloT) : ∀ c, (Γ__law_right ct).eqs.contains c = true → ∃ k F, EqC R T k c F ∧ (Γ__law_right ct).fn (c ++ ".__eq__") = F ∧ k + 1 ≤ kk := eqsC ⟨_, _, eq_Row F, (by kernel_rfl), Nat.le_trans (by decide +kernel) hk⟩ (eqs0)
theorem VALS__law_right {kk : Nat} (hk : 6 ≤ kk) (ct : CloT) : ∀ y, (Γ__law_right ct).vals.contains y = true → ∃ (k : Nat) (F : CloT → List D → G → Res), FnS R T k y ((Γ__law_right ct).par y) F ∧ (Γ__law_right ct).fn y = F ∧ k ≤ kk := eqsC ⟨_, _, ok_turned_over F, (by kernel_rfl), Nat.le_trans (by decide +kernel) hk⟩ (eqsC ⟨_, _, ok_turned_about F, (by kernel_rfl), Nat.le_trans (by decide +kernel) hk⟩ (eqs0))
theorem s__law_right (ct : CloT) : SndSs R T ⟨N__law_right, defScope (top 42), 7, true⟩ (Γ__law_right ct) (defBody (top 42)) f__law_right.body :=
  (.cons
  (.par3 (by decide +kernel) (by decide +kernel) (by decide +kernel) (by decide +kernel) (by decide +kernel) (by decide +kernel) rfl rfl (.cons (SndE.mk (mk_Row F) (by kernel_rfl) (by decide +kernel) rfl (by decide +kernel) (.cons (.e (SndE.v (by decide +kernel)) rfl) (.cons (.e (SndE.v (by decide +kernel)) rfl) SndA.nil))) (.cons (SndE.bi rfl (by decide +kernel) (n_len F) bo_len (.cons (.b (by decide +kernel)) SndA.nil)) (.cons (SndE.call (ok__law_shape F) (by kernel_rfl) (by decide +kernel) rfl (by decide +kernel) (.cons (.e (SndE.v (by decide +kernel)) rfl) (.cons (.e (SndE.v (by decide +kernel)) rfl) SndA.nil))) SndO.nil))) (by intro env he; cases env; cases he; rfl)) (.cons
  (.ite (SndT.cmp (.e (SndE.bi rfl (by decide +kernel) (n_repr F) bo_repr (.cons (.e (SndE.lst (.cons (SndE.call (ok_shape_of F) (by kernel_rfl) (by decide +kernel) rfl (by decide +kernel) (.cons (.e (SndE.v (by decide +kernel)) rfl) SndA.nil)) (.cons (SndE.callF F (ok_shape_of F) (by kernel_rfl) (by decide +kernel) (by decide +kernel) (.kw0 (ks := (["row"] : List Str)) (.cons (.e (SndE.v (by decide +kernel)) rfl) SndKw.nil)) (by decide +kernel) rfl rfl rfl) SndD.nil))) rfl) SndA.nil)) rfl) (.e (SndE.bi rfl (by decide +kernel) (n_repr F) bo_repr (.cons (.e (SndE.lst (.cons (SndE.v (by decide +kernel)) (.cons (SndE.v (by decide +kernel)) SndD.nil))) rfl) SndA.nil)) rfl)) (.cons
  (.ret SndE.bl) SndSs.nil) SndSs.nil) (.cons
  (.loop (SndI.seqF (SndE.lst (.cons (SndE.call (ok_row_of_shape F) (by kernel_rfl) (by decide +kernel) rfl (by decide +kernel) (.cons (.e (SndE.v (by decide +kernel)) rfl) SndA.nil)) (.cons (SndE.callF F (ok_row_of_shape F) (by kernel_rfl) (by decide +kernel) (by decide +kernel) (.kw0 (ks := (["shape"] : List Str)) (.cons (.e (SndE.v (by decide +kernel)) rfl) SndKw.nil)) (by decide +kernel) rfl rfl rfl) SndD.nil))) rfl) (SndB.s (by decide +kernel)) (.cons
  (.ite (SndT.w (SndW.or (SndT.cmp (.e (SndE.call (ok__law_pair_of F) (by kernel_rfl) (by decide +kernel) rfl (by decide +kernel) (.cons (.e (SndE.v (by decide +kernel)) rfl) SndA.nil)) rfl) (.e (SndE.tup (.cons (SndE.colT (by decide +kernel) (n_tuple F) (by decide +kernel) (SndR.one (by decide +kernel) (n_range F) (.b (by decide +kernel)))) (.cons (SndE.v (by decide +kernel)) SndD.nil))) rfl)) (SndW.or1 (SndT.cmp (.e (SndE.call (ok_shape_of F) (by kernel_rfl) (by decide +kernel) rfl (by decide +kernel) (.cons (.e (SndE.v (by decide +kernel)) rfl) SndA.nil)) rfl) (.b (by decide +kernel)))))) (.cons
  (.ret SndE.bl) SndSs.nil) SndSs.nil) SndSs.nil)) (.cons
  (.asg (SndB.s (by decide +kernel)) (SndE.call (ok__law_shuffled F) (by kernel_rfl) (by decide +kernel) rfl (by decide +kernel) (.cons (.e (SndE.v (by decide +kernel)) rfl) (.cons (.e (SndE.colL (by decide +kernel) (n_list F) (by decide +kernel) (SndR.one (by decide +kernel) (n_range F) (.b (by decide +kernel)))) rfl) SndA.nil)))) (.cons
  (.asg (SndB.s (by decide +kernel)) (SndE.tup (.cons (SndE.ty rfl (by decide +kernel) (n_tuple F) bo_tuple (.cons (.e (SndE.comp (own := [("letter", 11)]) (SndI.seq (.b (by decide +kernel))) (SndB.s (by decide +kernel)) SndC.nil (SndE.idx (.b (by decide +kernel)) (.b (by decide +kernel))) (by decide +kernel) rfl (by decide +kernel)) rfl) SndA.nil)) (.cons (SndE.ty rfl (by decide +kernel) (n_tuple F) bo_tuple (.cons (.e (SndE.comp (own := [("letter", 11)]) (SndI.seq (.b (by decide +kernel))) (SndB.s (by decide +kernel)) SndC.nil (SndE.idx (.b (by decide +kernel)) (.b (by decide +kernel))) (by decide +kernel) rfl (by decide +kernel)) rfl) SndA.nil)) SndD.nil)))) (.cons
  (.loop (SndI.seqF (SndE.lst (.cons (SndE.call (ok_renamed F) (by kernel_rfl) (by decide +kernel) rfl (by decide +kernel) (.cons (.e (SndE.v (by decide +kernel)) rfl) (.cons (.e (SndE.v (by decide +kernel)) rfl) SndA.nil))) (.cons (SndE.callF F (ok_renamed F) (by kernel_rfl) (by decide +kernel) (by decide +kernel) (.kw0 (ks := (["letters", "row"] : List Str)) (.cons (.e (SndE.ty rfl (by decide +kernel) (n_tuple F) bo_tuple (.cons (.b (by decide +kernel)) SndA.nil)) rfl) (.cons (.e (SndE.v (by decide +kernel)) rfl) SndKw.nil))) (by decide +kernel) rfl rfl rfl) SndD.nil))) rfl) (SndB.s (by decide +kernel)) (.cons
  (.ite (SndT.w (SndW.or (SndT.cmp (.e (SndE.bi rfl (by decide +kernel) (n_repr F) bo_repr (.cons (.e (SndE.call (ok__law_pair_of F) (by kernel_rfl) (by decide +kernel) rfl (by decide +kernel) (.cons (.e (SndE.v (by decide +kernel)) rfl) SndA.nil)) rfl) SndA.nil)) rfl) (.e (SndE.bi rfl (by decide +kernel) (n_repr F) bo_repr (.cons (.b (by decide +kernel)) SndA.nil)) rfl)) (SndW.or1 (SndT.cmp (.e (SndE.call (ok_shape_of F) (by kernel_rfl) (by decide +kernel) rfl (by decide +kernel) (.cons (.e (SndE.v (by decide +kernel)) rfl) SndA.nil)) rfl) (.b (by decide +kernel)))))) (.cons
  (.ret SndE.bl) SndSs.nil) SndSs.nil) SndSs.nil)) (.cons
  (.loop (SndI.seqF (SndE.lst (.cons (SndE.tup (.cons (SndE.gfn (by decide +kernel) (g_turned_over F)) (.cons (SndE.tup (.cons (SndE.v (by decide +kernel)) (.cons (SndE.v (by decide +kernel)) SndD.nil))) SndD.nil))) (.cons (SndE.tup (.cons (SndE.gfn (by decide +kernel) (g_turned_about F)) (.cons (SndE.tup (.cons (SndE.rev (.b (by decide +kernel))) (.cons (SndE.rev (.b (by decide +kernel))) SndD.nil))) SndD.nil))) SndD.nil))) rfl) (SndB.t (.cons (SndB.s (by decide +kernel)) (.cons (SndB.s (by decide +kernel)) SndBs.nil))) (.cons
  (.asg (SndB.s (by decide +kernel)) (SndE.cvF F (by decide +kernel) (.ps (.cons (.e (SndE.v (by decide +kernel)) rfl) SndA.nil) rfl) rfl (by decide +kernel) (VALS__law_right F (by decide +kernel) ct) (by kernel_rfl))) (.cons
  (.ite (SndT.w (SndW.or (SndT.cmp (.e (SndE.bi rfl (by decide +kernel) (n_repr F) bo_repr (.cons (.e (SndE.call (ok__law_pair_of F) (by kernel_rfl) (by decide +kernel) rfl (by decide +kernel) (.cons (.e (SndE.v (by decide +kernel)) rfl) SndA.nil)) rfl) SndA.nil)) rfl) (.e (SndE.bi rfl (by decide +kernel) (n_repr F) bo_repr (.cons (.b (by decide +kernel)) SndA.nil)) rfl)) (SndW.or (SndT.eqi rfl (EQS__law_right F (by decide +kernel) ct) (SndE.cvF F (by decide +kernel) (.kw0 (ks := (["row"] : List Str)) (.cons (.e (SndE.v (by decide +kernel)) rfl) SndKw.nil)) rfl (by decide +kernel) (VALS__law_right F (by decide +kernel) ct) (by kernel_rfl)) (SndE.v (by decide +kernel))) (SndW.or (SndT.eqi rfl (EQS__law_right F (by decide +kernel) ct) (SndE.cvF F (by decide +kernel) (.ps (.cons (.e (SndE.v (by decide +kernel)) rfl) SndA.nil) rfl) rfl (by decide +kernel) (VALS__law_right F (by decide +kernel) ct) (by kernel_rfl)) (SndE.v (by decide +kernel))) (SndW.or1 (SndT.cmp (.e (SndE.call (ok_is_whole F) (by kernel_rfl) (by decide +kernel) rfl (by decide +kernel) (.cons (.e (SndE.v (by decide +kernel)) rfl) SndA.nil)) rfl) (.e (SndE.call (ok_is_whole F) (by kernel_rfl) (by decide +kernel) rfl (by decide +kernel) (.cons (.e (SndE.v (by decide +kernel)) rfl) SndA.nil)) rfl))))))) (.cons
  (.ret SndE.bl) SndSs.nil) SndSs.nil) SndSs.nil))) (.cons
  (.ret (SndE.eqi rfl (EQS__law_right F (by decide +kernel) ct) (SndE.call (ok_turned_over F) (by kernel_rfl) (by decide +kernel) rfl (by decide +kernel) (.cons (.e (SndE.call (ok_turned_about F) (by kernel_rfl) (by decide +kernel) rfl (by decide +kernel) (.cons (.e (SndE.v (by decide +kernel)) rfl) SndA.nil)) rfl) SndA.nil)) (SndE.call (ok_turned_about F) (by kernel_rfl) (by decide +kernel) rfl (by decide +kernel) (.cons (.e (SndE.call (ok_turned_over F) (by kernel_rfl) (by decide +kernel) rfl (by decide +kernel) (.cons (.e (SndE.v (by decide +kernel)) rfl) SndA.nil)) rfl) SndA.nil)))) SndSs.nil))))))))
theorem ok__law_right : FnS R T 8 "_law_right" ["draw", "above", "below"] F__law_right := F.fnS (d := q__law_right) (Γ := Γ__law_right) (t := f__law_right.body) (List.mem_of_getElem? (i := 31) rfl) (by decide +kernel) ⟨rfl, rfl, rfl⟩ sc__law_right (fun _ _ _ _ _ _ us hl => match us, hl with | [_, _, _], _ => rfl) (fun _ _ _ _ _ _ => kwN (by kernel_rfl)) (fun _ _ _ h => if_pos h) (s__law_right F) (fun _ => rfl) fun _ => rfl
end
def f__law_like_right : Def := ⟨3, 12,
  [(.asgs [(.t (.s 8)), (.t (.s 9))] [(.mk "Row" [(.v 1), (.v 2)] []), (.call "_law_pair" [(.v 0), (.bi "len" [(.b 1)])] [])]), (.asg (.s 3) (.call "_law_shuffled" [(.v 0), (.col "list" (.rng [(.bi "len" [(.b 1)])]))] [])), (.asg (.s 4) (.call "_law_pick" [(.v 0), (.lst [(.v 9), (.tup [(.bi "tuple" [(.comp (.idx (.b 3) (.b 10)) (.s 10) (.seq (.b 1)) [] [10])]), (.bi "tuple" [(.comp (.idx (.b 3) (.b 10)) (.s 10) (.seq (.b 2)) [] [10])])])])] [])), (.asg (.s 5) (.mk "Row" [(.idx (.b 4) (.c (.int 0))), (.idx (.b 4) (.c (.int 1)))] [])), (.ite (.cmp .NotEq (.bi "len" [(.idx (.b 4) (.c (.int 0)))]) (.bi "len" [(.b 1)])) [(.ret (.cmp .NotEq (.call "shape_of" [(.v 5)] []) (.call "shape_of" [(.v 8)] [])))] []), (.own 6 (.bin .Mult (.lst [(.c (.int 0))]) (.bi "len" [(.b 1)]))), (.loop (.t [(.s 10), (.s 11)]) (.zip [(.v 1), (.idx (.b 4) (.c (.int 0)))]) [(.put 6 (.v 10) (.v 11))]), (.asg (.s 7) (.cmp .Eq (.bi "tuple" [(.comp (.idx (.b 6) (.b 10)) (.s 10) (.seq (.b 2)) [] [10])]) (.idx (.b 4) (.c (.int 1))))), (.frz 6), (.ret (.and (.cmp .Eq (.cmp .Eq (.call "shape_of" [(.v 8)] []) (.call "shape_of" [(.v 5)] [])) (.b 7)) (.cmp .Eq (.eqi false (.call "renamed" [(.v 8), (.v 6)] []) (.v 5)) (.b 7))))]⟩
noncomputable def Γ__law_like_right (ct : CloT) : Env' := { G0 ct with fn := (fun f => if f = "_law_pair" then F__law_pair else if f = "_law_shuffled" then F__law_shuffled else if f = "_law_pick" then F__law_pick else if f = "shape_of" then F_shape_of else if f = "renamed" then F_renamed else if f = "Row.__eq__" then F_RowD_eqD else fun _ _ _ => .bad), mkc := (fun f => if f = "Row" then mkR "Row" F_RowD_initD else fun _ _ _ => .bad), eqs := ["Row"] }
noncomputable def F__law_like_right (ct : CloT) (ds : List D) (g : G) : Res := f__law_like_right.run (Γ__law_like_right ct) ds g
def N__law_like_right : List Str := ["draw", "above", "below", "names", "other", "mate", "led", "is_like", "one", "two", "letter", "name"]
theorem sc__law_like_right : FnScope N__law_like_right ["draw", "above", "below"] (defScope (top 43)) := ⟨rfl, rfl, rfl, (by decide +kernel), rfl, (by decide +kernel), (by decide +kernel)⟩
section
variable {R : RC} {T : Tab} {tt : List (Addr × Addr)} {h : Heap} (F : FX R T tt h)
include F
theorem EQS__law_like_right {kk : Nat} (hk : 2 ≤ kk) (ct : CloT) : ∀ c, (Γ__law_like_right ct).eqs.contains c = true → ∃ k F, EqC R T k c F ∧ (Γ__law_like_right ct).fn (c ++ ".__eq__") = F ∧ k + 1 ≤ kk := eqsC ⟨_, _, eq_Row F, (by kernel_rfl), Nat.le_trans (by decide +kernel) hk⟩ (eqs0)
theorem s__law_like_right (ct : CloT) : SndSs R T ⟨N__law_like_right, defScope (top 43), 6, true⟩ (Γ__law_like_right ct) (defBody (top 43)) f__law_like_right.body :=
  (.cons
  (.par2 (by decide +kernel) (by decide +kernel) (by decide +kernel) rfl rfl (.cons (SndE.mk (mk_Row F) (by kernel_rfl) (by decide +kernel) rfl (by decide +kernel) (.cons (.e (SndE.v (by decide +kernel)) rfl) (.cons (.e (SndE.v (by decide +kernel)) rfl) SndA.nil))) (.cons (SndE.call (ok__law_pair F) (by kernel_rfl) (by decide +kernel) rfl (by decide +kernel) (.cons (.e (SndE.v (by decide +kernel)) rfl) (.cons (.e (SndE.bi rfl (by decide +kernel) (n_len F) bo_len (.cons (.b (by decide +kernel)) SndA.nil)) rfl) SndA.nil))) SndO.nil)) (by intro env he; cases env; cases he; rfl)) (.cons
  (.asg (SndB.s (by decide +kernel)) (SndE.call (ok__law_shuffled F) (by kernel_rfl) (by decide +kernel) rfl (by decide +kernel) (.cons (.e (SndE.v (by decide +kernel)) rfl) (.cons (.e (SndE.colL (by decide +kernel) (n_list F) (by decide +kernel) (SndR.one (by decide +kernel) (n_range F) (.e (SndE.bi rfl (by decide +kernel) (n_len F) bo_len (.cons (.b (by decide +kernel)) SndA.nil)) rfl))) rfl) SndA.nil)))) (.cons
  (.asg (SndB.s (by decide +kernel)) (SndE.call (ok__law_pick F) (by kernel_rfl) (by decide +kernel) rfl (by decide +kernel) (.cons (.e (SndE.v (by decide +kernel)) rfl) (.cons (.e (SndE.lst (.cons (SndE.v (by decide +kernel)) (.cons (SndE.tup (.cons (SndE.ty rfl (by decide +kernel) (n_tuple F) bo_tuple (.cons (.e (SndE.comp (own := [("letter", 10)]) (SndI.seq (.b (by decide +kernel))) (SndB.s (by decide +kernel)) SndC.nil (SndE.idx (.b (by decide +kernel)) (.b (by decide +kernel))) (by decide +kernel) rfl (by decide +kernel)) rfl) SndA.nil)) (.cons (SndE.ty rfl (by decide +kernel) (n_tuple F) bo_tuple (.cons (.e (SndE.comp (own := [("letter", 10)]) (SndI.seq (.b (by decide +kernel))) (SndB.s (by decide +kernel)) SndC.nil (SndE.idx (.b (by decide +kernel)) (.b (by decide +kernel))) (by decide +kernel) rfl (by decide +kernel)) rfl) SndA.nil)) SndD.nil))) SndD.nil))) rfl) SndA.nil)))) (.cons
  (.asg (SndB.s (by decide +kernel)) (SndE.mk (mk_Row F) (by kernel_rfl) (by decide +kernel) rfl (by decide +kernel) (.cons (.e (SndE.idx (.b (by decide +kernel)) (.e SndE.int rfl)) rfl) (.cons (.e (SndE.idx (.b (by decide +kernel)) (.e SndE.int rfl)) rfl) SndA.nil)))) (.cons
  (.ite (SndT.cmp (.e (SndE.bi rfl (by decide +kernel) (n_len F) bo_len (.cons (.e (SndE.idx (.b (by decide +kernel)) (.e SndE.int rfl)) rfl) SndA.nil)) rfl) (.e (SndE.bi rfl (by decide +kernel) (n_len F) bo_len (.cons (.b (by decide +kernel)) SndA.nil)) rfl)) (.cons
  (.ret (SndE.cmp (.e (SndE.call (ok_shape_of F) (by kernel_rfl) (by decide +kernel) rfl (by decide +kernel) (.cons (.e (SndE.v (by decide +kernel)) rfl) SndA.nil)) rfl) (.e (SndE.call (ok_shape_of F) (by kernel_rfl) (by decide +kernel) rfl (by decide +kernel) (.cons (.e (SndE.v (by decide +kernel)) rfl) SndA.nil)) rfl))) SndSs.nil) SndSs.nil) (.cons
  (.own (by decide +kernel) (SndE.bin rfl (.e (SndE.lst (.cons SndE.int SndD.nil)) rfl) (.e (SndE.bi rfl (by decide +kernel) (n_len F) bo_len (.cons (.b (by decide +kernel)) SndA.nil)) rfl))) (.cons
  (.loop (SndI.zip2 (.inr rfl) (by decide +kernel) (n_zip F) (.cons (.e (SndE.v (by decide +kernel)) rfl) (.cons (.e (SndE.idx (.b (by decide +kernel)) (.e SndE.int rfl)) rfl) SndA.nil))) (SndB.t (.cons (SndB.s (by decide +kernel)) (.cons (SndB.s (by decide +kernel)) SndBs.nil))) (.cons
  (.put (by decide +kernel) (SndE.v (by decide +kernel)) (SndE.v (by decide +kernel))) SndSs.nil)) (.cons
  (.asg (SndB.s (by decide +kernel)) (SndE.cmp (.e (SndE.ty rfl (by decide +kernel) (n_tuple F) bo_tuple (.cons (.e (SndE.comp (own := [("letter", 10)]) (SndI.seq (.b (by decide +kernel))) (SndB.s (by decide +kernel)) SndC.nil (SndE.idx (.b (by decide +kernel)) (.b (by decide +kernel))) (by decide +kernel) rfl (by decide +kernel)) rfl) SndA.nil)) rfl) (.e (SndE.idx (.b (by decide +kernel)) (.e SndE.int rfl)) rfl))) (.frz (.cons
  (.ret (SndE.and (SndE.cmp (.e (SndE.cmp (.e (SndE.call (ok_shape_of F) (by kernel_rfl) (by decide +kernel) rfl (by decide +kernel) (.cons (.e (SndE.v (by decide +kernel)) rfl) SndA.nil)) rfl) (.e (SndE.call (ok_shape_of F) (by kernel_rfl) (by decide +kernel) rfl (by decide +kernel) (.cons (.e (SndE.v (by decide +kernel)) rfl) SndA.nil)) rfl)) rfl) (.b (by decide +kernel))) (SndE.one (SndE.cmp (.e (SndE.eqi rfl (EQS__law_like_right F (by decide +kernel) ct) (SndE.call (ok_renamed F) (by kernel_rfl) (by decide +kernel) rfl (by decide +kernel) (.cons (.e (SndE.v (by decide +kernel)) rfl) (.cons (.e (SndE.v (by decide +kernel)) rfl) SndA.nil))) (SndE.v (by decide +kernel))) rfl) (.b (by decide +kernel)))))) SndSs.nil))))))))))
theorem ok__law_like_right : FnS R T 7 "_law_like_right" ["draw", "above", "below"] F__law_like_right := F.fnS (d := q__law_like_right) (Γ := Γ__law_like_right) (t := f__law_like_right.body) (List.mem_of_getElem? (i := 32) rfl) (by decide +kernel) ⟨rfl, rfl, rfl⟩ sc__law_like_right (fun _ _ _ _ _ _ us hl => match us, hl with | [_, _, _], _ => rfl) (fun _ _ _ _ _ _ => kwN (by kernel_rfl)) (fun _ _ _ h => if_pos h) (s__law_like_right F) (fun _ => rfl) fun _ => rfl
end
def f__law_refused : Def := ⟨3, 13,
  [(.asgs [(.t (.s 9)), (.t (.s 10))] [(.mk "Row" [(.v 1), (.v 2)] []), (.bi "len" [(.b 1)])]), (.asg (.s 3) (.lst [(.c .non), (.c (.int 5)), (.c (.str "01")), (.tup []), (.tup [(.c (.int 0))]), (.bi "list" [(.b 1)]), (.col "tuple" (.rng [(.c (.int 9))])), (.bin .Add (.slc (.b 1) (.c (.int 1)) .no) (.slc (.b 1) (.c (.int 1)) (.c (.int 2)))), (.bin .Add (.slc (.b 1) .no (.neg (.c (.int 1)))) (.tup [(.v 10)])), (.bin .Add (.slc (.b 1) .no (.neg (.c (.int 1)))) (.tup [(.c .non)])), (.tup [(.c (.bl true)), (.c (.bl false))]), (.tup [(.c (.bl false)), (.c (.bl true))]), (.v 1)])), (.loop (.s 4) (.seq (.bin .Add (.b 3) (.lst [(.bi "tuple" [(.comp (.bi "str" [(.b 12)]) (.s 12) (.seq (.b 1)) [] [12])])]))) [(.asg (.s 11) (.call "_law_is_shape" [(.v 4)] [])), (.ite (.or (.not (.call "_law_says" [(.call "is_shape" [(.v 4)] []), (.v 11)] [])) (.not (.call "_law_says" [(.call "is_shape" [(.v 4)] [0]), (.v 11)] []))) [(.ret (.c (.bl false)))] []), (.ite (.and (.not (.v 11)) (.cmp .NotEq (.call "_law_word" [(.call "_law_caught" [(.lam 0 [4])] [])] []) (.c (.str "shape")))) [(.ret (.c (.bl false)))] [])]), (.asg (.s 5) (.call "_law_pick" [(.v 0), (.lst [(.c .non), (.c (.int 5)), (.tup [(.v 1), (.v 2)]), (.c (.str "row"))])] [])), (.asg (.s 6) (.call "_law_pick" [(.v 0), (.lst [(.c .non), (.c (.int 5)), (.c (.str "0")), (.col "list" (.rng [(.bin .Add (.b 10) (.c (.int 1)))])), (.col "list" (.rng [(.bin .Sub (.b 10) (.c (.int 1)))])), (.bin .Mult (.lst [(.c (.int 0))]) (.b 10)), (.bin .Mult (.lst [(.c (.bl true))]) (.b 10)), (.bin .Mult (.lst [(.c .non)]) (.b 10)), .edic, (.col "tuple" (.rng [(.c (.int 1)), (.bin .Add (.b 10) (.c (.int 1)))]))])] [])), (.own 7 (.lst [])), (.loop (.s 8) (.seq (.lst [(.lam 1 [5]), (.lam 2 [5, 6]), (.lam 3 [5]), (.lam 4 [5]), (.lam 5 [9, 6])])) [(.app 7 (.call "_law_word" [(.call "_law_caught" [(.v 8)] [])] []))]), (.ret (.cmp .Eq (.b 7) (.bin .Add (.bin .Mult (.lst [(.c (.str "row None"))]) (.c (.int 4))) (.lst [(.c (.str "letters"))]))))]⟩
def l__law_refused_0 : E := (.call "row_of_shape" [(.v 4)] [])
def l__law_refused_1 : E := (.call "shape_of" [(.v 5)] [])
def l__law_refused_2 : E := (.call "renamed" [(.v 5), (.v 6)] [])
def l__law_refused_3 : E := (.call "turned_over" [(.v 5)] [])
def l__law_refused_4 : E := (.call "turned_about" [(.v 5)] [])
def l__law_refused_5 : E := (.call "renamed" [(.v 9), (.v 6)] [])
noncomputable def B__law_refused (ct : CloT) (κ : Nat → List Nat) : Env' := { G0 ct with fn := (fun f => if f = "_law_is_shape" then F__law_is_shape else if f = "_law_says" then F__law_says else if f = "is_shape" then F_is_shape else if f = "_law_word" then F__law_word else if f = "_law_caught" then F__law_caught else if f = "row_of_shape" then F_row_of_shape else if f = "_law_pick" then F__law_pick else if f = "shape_of" then F_shape_of else if f = "renamed" then F_renamed else if f = "turned_over" then F_turned_over else if f = "turned_about" then F_turned_about else fun _ _ _ => .bad), mkc := (fun f => if f = "Row" then mkR "Row" F_RowD_initD else fun _ _ _ => .bad), caps := κ, qual := ("_law_refused" : Str) ++ (".<locals>." : Str), capS := (fun id => if id = 0 then [4] else if id = 1 then [5] else if id = 2 then [5, 6] else if id = 3 then [5] else if id = 4 then [5] else if id = 5 then [9, 6] else []) }
noncomputable def Γ__law_refused (ct : CloT) (κ : Nat → List Nat) : Env' := { B__law_refused ct κ with mine := [0, 1, 2, 3, 4, 5], lamD := (fun id loc args g => if id = 0 then (if args.isEmpty then den (B__law_refused ct κ).nc l__law_refused_0 loc g else .bad) else if id = 1 then (if args.isEmpty then den (B__law_refused ct κ).nc l__law_refused_1 loc g else .bad) else if id = 2 then (if args.isEmpty then den (B__law_refused ct κ).nc l__law_refused_2 loc g else .bad) else if id = 3 then (if args.isEmpty then den (B__law_refused ct κ).nc l__law_refused_3 loc g else .bad) else if id = 4 then (if args.isEmpty then den (B__law_refused ct κ).nc l__law_refused_4 loc g else .bad) else if id = 5 then (if args.isEmpty then den (B__law_refused ct κ).nc l__law_refused_5 loc g else .bad) else .bad) }
noncomputable def F__law_refused : CloT → List D → G → Res := runL f__law_refused Γ__law_refused
def N__law_refused : List Str := ["draw", "above", "below", "odd", "thing", "none", "bad", "words", "work", "row", "many", "due", "spot"]
theorem sc__law_refused : FnScope N__law_refused ["draw", "above", "below"] (defScope (top 44)) := ⟨rfl, rfl, rfl, (by decide +kernel), rfl, (by decide +kernel), (by decide +kernel)⟩
section
variable {R : RC} {T : Tab} {tt : List (Addr × Addr)} {h : Heap} (F : FX R T tt h)
include F
theorem lam__law_refused (ct : CloT) (κ : Nat → List Nat) : ∀ id, (Γ__law_refused ct κ).mine.contains id = true → LamOk R T N__law_refused (defScope (top 44)) 6 (Γ__law_refused ct κ) id := eqsC ⟨⟨lamb0, l__law_refused_0, (by rw [F.lam]; rfl), (by kernel_rfl), (by decide +kernel), (fun _ _ _ _ _ => (by kernel_rfl)),
  (SndE.call (ok_row_of_shape F) (by kernel_rfl) (by decide +kernel) rfl (by decide +kernel) (.cons (.e (SndE.v (by decide +kernel)) rfl) SndA.nil)), fun _ _ _ => rfl⟩⟩ (eqsC ⟨⟨lamb1, l__law_refused_1, (by rw [F.lam]; rfl), (by kernel_rfl), (by decide +kernel), (fun _ _ _ _ _ => (by kernel_rfl)),
  (SndE.call (ok_shape_of F) (by kernel_rfl) (by decide +kernel) rfl (by decide +kernel) (.cons (.e (SndE.v (by decide +kernel)) rfl) SndA.nil)), fun _ _ _ => rfl⟩⟩ (eqsC ⟨⟨lamb2, l__law_refused_2, (by rw [F.lam]; rfl), (by kernel_rfl), (by decide +kernel), (fun _ _ _ _ _ => (by kernel_rfl)),
  (SndE.call (ok_renamed F) (by kernel_rfl) (by decide +kernel) rfl (by decide +kernel) (.cons (.e (SndE.v (by decide +kernel)) rfl) (.cons (.e (SndE.v (by decide +kernel)) rfl) SndA.nil))), fun _ _ _ => rfl⟩⟩ (eqsC ⟨⟨lamb3, l__law_refused_3, (by rw [F.lam]; rfl), (by kernel_rfl), (by decide +kernel), (fun _ _ _ _ _ => (by kernel_rfl)),
  (SndE.call (ok_turned_over F) (by kernel_rfl) (by decide +kernel) rfl (by decide +kernel) (.cons (.e (SndE.v (by decide +kernel)) rfl) SndA.nil)), fun _ _ _ => rfl⟩⟩ (eqsC ⟨⟨lamb4, l__law_refused_4, (by rw [F.lam]; rfl), (by kernel_rfl), (by decide +kernel), (fun _ _ _ _ _ => (by kernel_rfl)),
  (SndE.call (ok_turned_about F) (by kernel_rfl) (by decide +kernel) rfl (by decide +kernel) (.cons (.e (SndE.v (by decide +kernel)) rfl) SndA.nil)), fun _ _ _ => rfl⟩⟩ (eqsC ⟨⟨lamb5, l__law_refused_5, (by rw [F.lam]; rfl), (by kernel_rfl), (by decide +kernel), (fun _ _ _ _ _ => (by kernel_rfl)),
  (SndE.call (ok_renamed F) (by kernel_rfl) (by decide +kernel) rfl (by decide +kernel) (.cons (.e (SndE.v (by decide +kernel)) rfl) (.cons (.e (SndE.v (by decide +kernel)) rfl) SndA.nil))), fun _ _ _ => rfl⟩⟩ (eqs0))))))
theorem s__law_refused (ct : CloT) (κ : Nat → List Nat) : SndSs R T ⟨N__law_refused, defScope (top 44), 8, true⟩ (Γ__law_refused ct κ) (defBody (top 44)) f__law_refused.body :=
  (.cons
  (.parN (.cons (by decide +kernel) (.cons (by decide +kernel) SndNs.nil)) rfl rfl (by decide +kernel) (.cons (SndE.mk (mk_Row F) (by kernel_rfl) (by decide +kernel) rfl (by decide +kernel) (.cons (.e (SndE.v (by decide +kernel)) rfl) (.cons (.e (SndE.v (by decide +kernel)) rfl) SndA.nil))) (.cons (SndE.bi rfl (by decide +kernel) (n_len F) bo_len (.cons (.b (by decide +kernel)) SndA.nil)) SndO.nil)) (by intro env he; cases env; cases he; rfl)) (.cons
  (.asg (SndB.s (by decide +kernel)) (SndE.lst (.cons SndE.non (.cons SndE.int (.cons SndE.str (.cons (SndE.tup SndD.nil) (.cons (SndE.tup (.cons SndE.int SndD.nil)) (.cons (SndE.ty rfl (by decide +kernel) (n_list F) bo_list (.cons (.b (by decide +kernel)) SndA.nil)) (.cons (SndE.colT (by decide +kernel) (n_tuple F) (by decide +kernel) (SndR.one (by decide +kernel) (n_range F) (.e SndE.int rfl))) (.cons (SndE.bin rfl (.e (SndE.slc (.b (by decide +kernel)) (.e SndE.int rfl) SndP.no) rfl) (.e (SndE.slc (.b (by decide +kernel)) (.e SndE.int rfl) (.e SndE.int rfl)) rfl)) (.cons (SndE.bin rfl (.e (SndE.slc (.b (by decide +kernel)) SndP.no (.e (SndE.neg SndE.int) rfl)) rfl) (.e (SndE.tup (.cons (SndE.v (by decide +kernel)) SndD.nil)) rfl)) (.cons (SndE.bin rfl (.e (SndE.slc (.b (by decide +kernel)) SndP.no (.e (SndE.neg SndE.int) rfl)) rfl) (.e (SndE.tup (.cons SndE.non SndD.nil)) rfl)) (.cons (SndE.tup (.cons SndE.bl (.cons SndE.bl SndD.nil))) (.cons (SndE.tup (.cons SndE.bl (.cons SndE.bl SndD.nil))) (.cons (SndE.v (by decide +kernel)) SndD.nil))))))))))))))) (.cons
  (.loop (SndI.seqF (SndE.bin rfl (.b (by decide +kernel)) (.e (SndE.lst (.cons (SndE.ty rfl (by decide +kernel) (n_tuple F) bo_tuple (.cons (.e (SndE.comp (own := [("spot", 12)]) (SndI.seq (.b (by decide +kernel))) (SndB.s (by decide +kernel)) SndC.nil (SndE.ty rfl (by decide +kernel) (n_str F) bo_str (.cons (.b (by decide +kernel)) SndA.nil)) (by decide +kernel) rfl (by decide +kernel)) rfl) SndA.nil)) SndD.nil)) rfl)) rfl) (SndB.s (by decide +kernel)) (.cons
  (.asg (SndB.s (by decide +kernel)) (SndE.call (ok__law_is_shape F) (by kernel_rfl) (by decide +kernel) rfl (by decide +kernel) (.cons (.e (SndE.v (by decide +kernel)) rfl) SndA.nil))) (.cons
  (.ite (SndT.w (SndW.or (SndT.not (SndT.val (SndE.call (ok__law_says F) (by kernel_rfl) (by decide +kernel) rfl (by decide +kernel) (.cons (.e (SndE.call (ok_is_shape F) (by kernel_rfl) (by decide +kernel) rfl (by decide +kernel) (.cons (.e (SndE.v (by decide +kernel)) rfl) SndA.nil)) rfl) (.cons (.e (SndE.v (by decide +kernel)) rfl) SndA.nil))))) (SndW.or1 (SndT.not (SndT.val (SndE.call (ok__law_says F) (by kernel_rfl) (by decide +kernel) rfl (by decide +kernel) (.cons (.e (SndE.callF F (ok_is_shape F) (by kernel_rfl) (by decide +kernel) (by decide +kernel) (.kw0 (ks := (["thing"] : List Str)) (.cons (.e (SndE.v (by decide +kernel)) rfl) SndKw.nil)) (by decide +kernel) rfl rfl rfl) rfl) (.cons (.e (SndE.v (by decide +kernel)) rfl) SndA.nil)))))))) (.cons
  (.ret SndE.bl) SndSs.nil) SndSs.nil) (.cons
  (.ite (SndT.w (SndW.and (SndT.not (SndT.val (SndE.v (by decide +kernel)))) (SndW.and1 (SndT.cmp (.e (SndE.call (ok__law_word F) (by kernel_rfl) (by decide +kernel) rfl (by decide +kernel) (.cons (.e (SndE.call (ok__law_caught F) (by kernel_rfl) (by decide +kernel) rfl (by decide +kernel) (.cons (.e (SndE.lamX F (by kernel_rfl) rfl (by kernel_rfl) (by decide +kernel)) rfl) SndA.nil)) rfl) SndA.nil)) rfl) (.e SndE.str rfl))))) (.cons
  (.ret SndE.bl) SndSs.nil) SndSs.nil) SndSs.nil)))) (.cons
  (.asg (SndB.s (by decide +kernel)) (SndE.call (ok__law_pick F) (by kernel_rfl) (by decide +kernel) rfl (by decide +kernel) (.cons (.e (SndE.v (by decide +kernel)) rfl) (.cons (.e (SndE.lst (.cons SndE.non (.cons SndE.int (.cons (SndE.tup (.cons (SndE.v (by decide +kernel)) (.cons (SndE.v (by decide +kernel)) SndD.nil))) (.cons SndE.str SndD.nil))))) rfl) SndA.nil)))) (.cons
  (.asg (SndB.s (by decide +kernel)) (SndE.call (ok__law_pick F) (by kernel_rfl) (by decide +kernel) rfl (by decide +kernel) (.cons (.e (SndE.v (by decide +kernel)) rfl) (.cons (.e (SndE.lst (.cons SndE.non (.cons SndE.int (.cons SndE.str (.cons (SndE.colL (by decide +kernel) (n_list F) (by decide +kernel) (SndR.one (by decide +kernel) (n_range F) (.e (SndE.bin rfl (.b (by decide +kernel)) (.e SndE.int rfl)) rfl))) (.cons (SndE.colL (by decide +kernel) (n_list F) (by decide +kernel) (SndR.one (by decide +kernel) (n_range F) (.e (SndE.bin rfl (.b (by decide +kernel)) (.e SndE.int rfl)) rfl))) (.cons (SndE.bin rfl (.e (SndE.lst (.cons SndE.int SndD.nil)) rfl) (.b (by decide +kernel))) (.cons (SndE.bin rfl (.e (SndE.lst (.cons SndE.bl SndD.nil)) rfl) (.b (by decide +kernel))) (.cons (SndE.bin rfl (.e (SndE.lst (.cons SndE.non SndD.nil)) rfl) (.b (by decide +kernel))) (.cons SndE.edic (.cons (SndE.colT (by decide +kernel) (n_tuple F) (by decide +kernel) (SndR.two (by decide +kernel) (n_range F) (.e SndE.int rfl) (.e (SndE.bin rfl (.b (by decide +kernel)) (.e SndE.int rfl)) rfl))) SndD.nil))))))))))) rfl) SndA.nil)))) (.cons
  (.own (by decide +kernel) (SndE.lst SndD.nil)) (.cons
  (.loop (SndI.seqF (SndE.lst (.cons (SndE.lamX F (by kernel_rfl) rfl (by kernel_rfl) (by decide +kernel)) (.cons (SndE.lamX F (by kernel_rfl) rfl (by kernel_rfl) (by decide +kernel)) (.cons (SndE.lamX F (by kernel_rfl) rfl (by kernel_rfl) (by decide +kernel)) (.cons (SndE.lamX F (by kernel_rfl) rfl (by kernel_rfl) (by decide +kernel)) (.cons (SndE.lamX F (by kernel_rfl) rfl (by kernel_rfl) (by decide +kernel)) SndD.nil)))))) rfl) (SndB.s (by decide +kernel)) (.cons
  (.app (by decide +kernel) (SndE.call (ok__law_word F) (by kernel_rfl) (by decide +kernel) rfl (by decide +kernel) (.cons (.e (SndE.call (ok__law_caught F) (by kernel_rfl) (by decide +kernel) rfl (by decide +kernel) (.cons (.e (SndE.v (by decide +kernel)) rfl) SndA.nil)) rfl) SndA.nil))) SndSs.nil)) (.cons
  (.ret (SndE.cmp (.b (by decide +kernel)) (.e (SndE.bin rfl (.e (SndE.bin rfl (.e (SndE.lst (.cons SndE.str SndD.nil)) rfl) (.e SndE.int rfl)) rfl) (.e (SndE.lst (.cons SndE.str SndD.nil)) rfl)) rfl))) SndSs.nil))))))))
theorem ok__law_refused : FnS R T 9 "_law_refused" ["draw", "above", "below"] F__law_refused := F.fnL (d := q__law_refused) (Γ := Γ__law_refused) (f := f__law_refused) (kb := 6) (List.mem_of_getElem? (i := 33) rfl) (by decide +kernel) ⟨rfl, rfl, rfl⟩ sc__law_refused (fun _ _ _ _ _ _ us hl => match us, hl with | [_, _, _], _ => rfl) (fun _ _ _ _ _ _ => kwN (by kernel_rfl)) 0 rfl ⟨rfl, rfl⟩ (s__law_refused F) (fun _ _ => rfl) (fun _ _ => rfl) (fun _ _ => rfl) (lam__law_refused F) (by decide +kernel)
end
def f_law : Def := ⟨1, 5,
  [(.asg (.s 1) (.call "_law_begun" [(.v 0)] [])), (.loop (.s 2) (.rng [(.bin .Add (.c (.int 3)) (.bi "min" [(.bi "len" [(.b 0)]), (.c (.int 9))]))]) [(.asg (.t [(.s 3), (.s 4)]) (.call "_law_pair" [(.v 1), (.c (.int 8))] [])), (.ite (.or (.not (.call "_law_right" [(.v 1), (.v 3), (.v 4)] [])) (.or (.not (.call "_law_like_right" [(.v 1), (.v 3), (.v 4)] [])) (.not (.call "_law_refused" [(.v 1), (.v 3), (.v 4)] [])))) [(.ret (.c (.bl false)))] [])]), (.ret (.cmp .Eq (.call "shape_of" [(.mk "Row" [(.tup [(.c (.int 2)), (.c (.int 0)), (.c (.int 1))]), (.tup [(.c (.int 1)), (.c (.int 2)), (.c (.int 0))])] [])] []) (.tup [(.c (.int 2)), (.c (.int 0)), (.c (.int 1))])))]⟩
noncomputable def Γ_law (ct : CloT) : Env' := { G0 ct with fn := (fun f => if f = "_law_begun" then F__law_begun else if f = "_law_pair" then F__law_pair else if f = "_law_right" then F__law_right else if f = "_law_like_right" then F__law_like_right else if f = "_law_refused" then F__law_refused else if f = "shape_of" then F_shape_of else fun _ _ _ => .bad), mkc := (fun f => if f = "Row" then mkR "Row" F_RowD_initD else fun _ _ _ => .bad) }
noncomputable def F_law (ct : CloT) (ds : List D) (g : G) : Res := f_law.run (Γ_law ct) ds g
def N_law : List Str := ["script", "draw", "turn", "above", "below"]
theorem sc_law : FnScope N_law ["script"] (defScope (top 45)) := ⟨rfl, rfl, rfl, (by decide +kernel), rfl, (by decide +kernel), (by decide +kernel)⟩
section
variable {R : RC} {T : Tab} {tt : List (Addr × Addr)} {h : Heap} (F : FX R T tt h)
include F
theorem s_law (ct : CloT) : SndSs R T ⟨N_law, defScope (top 45), 9, true⟩ (Γ_law ct) (defBody (top 45)) f_law.body :=
  (.cons
  (.asg (SndB.s (by decide +kernel)) (SndE.call (ok__law_begun F) (by kernel_rfl) (by decide +kernel) rfl (by decide +kernel) (.cons (.e (SndE.v (by decide +kernel)) rfl) SndA.nil))) (.cons
  (.loop (SndI.rng1 (by decide +kernel) (n_range F) (.cons (.e (SndE.bin rfl (.e SndE.int rfl) (.e (SndE.bi rfl (by decide +kernel) (n_min F) bo_min (.cons (.e (SndE.bi rfl (by decide +kernel) (n_len F) bo_len (.cons (.b (by decide +kernel)) SndA.nil)) rfl) (.cons (.e SndE.int rfl) SndA.nil))) rfl)) rfl) SndA.nil)) (SndB.s (by decide +kernel)) (.cons
  (.asg (SndB.t (.cons (SndB.s (by decide +kernel)) (.cons (SndB.s (by decide +kernel)) SndBs.nil))) (SndE.call (ok__law_pair F) (by kernel_rfl) (by decide +kernel) rfl (by decide +kernel) (.cons (.e (SndE.v (by decide +kernel)) rfl) (.cons (.e SndE.int rfl) SndA.nil)))) (.cons
  (.ite (SndT.w (SndW.or (SndT.not (SndT.val (SndE.call (ok__law_right F) (by kernel_rfl) (by decide +kernel) rfl (by decide +kernel) (.cons (.e (SndE.v (by decide +kernel)) rfl) (.cons (.e (SndE.v (by decide +kernel)) rfl) (.cons (.e (SndE.v (by decide +kernel)) rfl) SndA.nil)))))) (SndW.or (SndT.not (SndT.val (SndE.call (ok__law_like_right F) (by kernel_rfl) (by decide +kernel) rfl (by decide +kernel) (.cons (.e (SndE.v (by decide +kernel)) rfl) (.cons (.e (SndE.v (by decide +kernel)) rfl) (.cons (.e (SndE.v (by decide +kernel)) rfl) SndA.nil)))))) (SndW.or1 (SndT.not (SndT.val (SndE.call (ok__law_refused F) (by kernel_rfl) (by decide +kernel) rfl (by decide +kernel) (.cons (.e (SndE.v (by decide +kernel)) rfl) (.cons (.e (SndE.v (by decide +kernel)) rfl) (.cons (.e (SndE.v (by decide +kernel)) rfl) SndA.nil)))))))))) (.cons
  (.ret SndE.bl) SndSs.nil) SndSs.nil) SndSs.nil))) (.cons
  (.ret (SndE.cmp (.e (SndE.call (ok_shape_of F) (by kernel_rfl) (by decide +kernel) rfl (by decide +kernel) (.cons (.e (SndE.mk (mk_Row F) (by kernel_rfl) (by decide +kernel) rfl (by decide +kernel) (.cons (.e (SndE.tup (.cons SndE.int (.cons SndE.int (.cons SndE.int SndD.nil)))) rfl) (.cons (.e (SndE.tup (.cons SndE.int (.cons SndE.int (.cons SndE.int SndD.nil)))) rfl) SndA.nil))) rfl) SndA.nil)) rfl) (.e (SndE.tup (.cons SndE.int (.cons SndE.int (.cons SndE.int SndD.nil)))) rfl))) SndSs.nil)))
theorem ok_law : FnS R T 10 "law" ["script"] F_law := F.fnS (d := q_law) (Γ := Γ_law) (t := f_law.body) (List.mem_of_getElem? (i := 34) rfl) (by decide +kernel) ⟨rfl, rfl, rfl⟩ sc_law (fun _ _ _ _ _ _ us hl => match us, hl with | [_], _ => rfl) (fun _ _ _ _ _ _ => kwN (by kernel_rfl)) (fun _ _ _ h => if_pos h) (s_law F) (fun _ => rfl) fun _ => rfl
end
end K03
end
section
set_option Elab.async false
set_option linter.all false
set_option maxRecDepth 100000
set_option maxHeartbeats 1000000
namespace K03
open PySem PyD
def isI : D → Bool
  | .int _ => true
  | _ => false
theorem isI_of {d : D} (h : (tyD d).isSome = true) : (isTy "int" d && !isTy "bool" d) = isI d := by
  cases d <;> simp [isTy, isI, tyD] at *
theorem num_eq (ct : CloT) (d : D) (g : G) (h : (tyD d).isSome = true) : F_is_number ct [d] g = .ok false (.bl (isI d)) g := by
  rw [← isI_of h]
  unfold F_is_number Def.run f_is_number
  simp [startL, h]
  cases isTy "int" d <;> simp
@[simp] theorem fn_b1 (ct : CloT) : (Γ_is_between ct).fn "is_number" = F_is_number := by kernel_rfl
def btw (d : D) (lo hi : Int) : Bool := match d with
  | .int i => decide (lo ≤ i) && decide (i ≤ hi)
  | _ => false
theorem btw_eq (ct : CloT) (d : D) (lo hi : Int) (g : G) (h : (tyD d).isSome = true) : F_is_between ct [d, .int lo, .int hi] g = .ok false (.bl (btw d lo hi)) g := by
  unfold F_is_between Def.run f_is_between
  simp [startL, num_eq, h]
  cases d <;> simp [isI, btw, cmpD, tyD] at *
  rename_i i
  by_cases c : lo ≤ i <;> simp [c]
end K03
end
section
set_option Elab.async false
set_option linter.all false
set_option maxRecDepth 100000
set_option maxHeartbeats 1000000
namespace K03
open PySem PyD
@[simp] theorem fn_e1 (ct : CloT) : (Γ_has_each ct).fn "is_between" = F_is_between := by kernel_rfl
open Classical in
noncomputable def eachB (l : List D) (n : Nat) : Bool := decide (∃ p : List Nat, p.Perm (List.range n) ∧ l = iN p)
theorem btws {l : List D} {n : Nat} (h : l.all (fun d => btw d 0 ((n : Int) - 1)) = true) : ∃ p : List Nat, l = iN p ∧ ∀ k ∈ p, k < n := by
  induction l with
  | nil => exact ⟨[], rfl, fun k hk => by cases hk⟩
  | cons d r ih =>
    simp only [List.all_cons, Bool.and_eq_true] at h
    obtain ⟨p, e, hp⟩ := ih h.2
    have h1 := h.1
    cases d <;> simp only [btw] at h1 <;> try (cases h1; done)
    rename_i i
    simp only [Bool.and_eq_true, decide_eq_true_eq] at h1
    refine ⟨i.toNat :: p, by rw [e]; simp [iN]; omega, fun k hk => ?_⟩
    rcases List.mem_cons.mp hk with rfl | hk
    · omega
    · exact hp k hk
theorem each_eq (ct : CloT) (thing : D) (l : List D) (n : Nat) (g : G) (hi : thing = .tup l ∨ thing = .lst l) (ht : ∀ d ∈ l, (tyD d).isSome = true) (hl : l.length < 16777216) (hn : n < 16777216) : F_has_each ct [thing, .int n] g = .ok false (.bl (eachB l n)) g := by
  have hit : thing.items = some l := by rcases hi with rfl | rfl <;> rfl
  by_cases hln : l.length = n
  · subst hln
    have hrng : rngD [.int (l.length : Int)] = some (iN (List.range l.length)) := rngD_nat (by omega)
    have hl2 : l.length < sizeLine := line_lt hl
    have hl3 : l.length ≤ sizeLine := Nat.le_of_lt hl2
    have hct : ∀ (X : D → CloT), compD (fun x g' => F_is_between (X x) [x, D.int 0, D.int (↑l.length - 1)] g') (fun x g' => Res.ok false (D.bl true) g') l g = .ok (l.map fun d => D.bl (btw d 0 ((l.length : Int) - 1))) g := fun X =>
      compD_map (h := fun d => D.bl (btw d 0 ((l.length : Int) - 1))) (fun x _ => ⟨_, rfl⟩) (fun x hx => ⟨_, btw_eq (X x) x 0 _ g (ht x hx)⟩)
    unfold F_has_each Def.run f_has_each
    cases hall : l.all (fun d => btw d 0 ((l.length : Int) - 1)) with
    | false =>
      have : eachB l l.length = false := by
        simp only [eachB, decide_eq_false_iff_not]
        rintro ⟨p, hp, rfl⟩
        have : (iN p).all (fun d => btw d 0 (((iN p).length : Int) - 1)) = true := by
          simp only [List.all_eq_true, iN, List.mem_map]
          rintro d ⟨k, hk, rfl⟩
          have := List.mem_range.mp (hp.mem_iff.mp hk)
          simp [btw] at *
          omega
        rw [this] at hall
        cases hall
      have hall2 : (List.map (fun d => btw d 0 ((l.length : Int) - 1)) l).all id = false := by rw [List.all_map]; exact hall
      simp [startL, hit, binD, cmpD, permL, denI, bindT, wipeL, semB, sem2, hct, hl2, hall2, this]
    | true =>
      obtain ⟨p, hpe, hp⟩ := btws hall
      have hall2 : (List.map (fun d => btw d 0 ((l.length : Int) - 1)) l).all id = true := by rw [List.all_map]; exact hall
      have hs : biD "sorted" [thing] = some (true, .lst (iN (srt p))) := bi_sorted (by rw [hit, hpe])
      have he : eachB l l.length = decide (srt p = List.range l.length) := by
        simp only [eachB, decide_eq_decide, srt_range]
        exact ⟨fun ⟨q, hq, e⟩ => by rw [hpe] at e; rw [iN_eq.mp e]; exact hq, fun h => ⟨p, h, hpe⟩⟩
      rw [he]
      simp [startL, hit, binD, cmpD, permL, denI, bindT, wipeL, semB, sem2, hct, hl2, hall2, hs, hrng, hl3]
  · have : eachB l n = false := by
      simp only [eachB, decide_eq_false_iff_not]
      rintro ⟨p, hp, rfl⟩
      exact hln (by rw [iN_length, hp.length_eq, List.length_range])
    unfold F_has_each Def.run f_has_each
    have hln' : ¬ ((l.length : Int) = n) := by omega
    simp [startL, hit, binD, cmpD, permL, denI, bindT, wipeL, semB, sem2, hln', this]
end K03
end
section
set_option Elab.async false
set_option linter.all false
set_option maxRecDepth 100000
set_option maxHeartbeats 1000000
namespace K03
open PySem PyD
def seqD : D → Option (List D)
  | .tup l => some l
  | .lst l => some l
  | _ => none
theorem seqD_or {d : D} {l : List D} (h : seqD d = some l) : d = .tup l ∨ d = .lst l := by
  cases d <;> simp [seqD] at h <;> subst h <;> simp
theorem seqD_items {d : D} {l : List D} (h : seqD d = some l) : d.items = some l := by
  rcases seqD_or h with rfl | rfl <;> rfl
theorem seqD_ty {d : D} {l : List D} (h : seqD d = some l) : (tyD d).isSome = true := by
  rcases seqD_or h with rfl | rfl <;> rfl
theorem list_eq (ct : CloT) (d : D) (g : G) (h : (tyD d).isSome = true) : F_is_list ct [d] g = .ok false (.bl (seqD d).isSome) g := by
  unfold F_is_list Def.run f_is_list
  simp [startL, h, sizeLine_eq]
  cases d <;> simp [isTy, seqD]
theorem ty_iN (p : List Nat) : ∀ d ∈ iN p, (tyD d).isSome = true := by
  simp only [iN, List.mem_map]
  rintro d ⟨k, _, rfl⟩
  rfl
theorem each_ok {p : List Nat} {n : Nat} (h : p.Perm (List.range n)) : eachB (iN p) n = true := by
  simp only [eachB, decide_eq_true_eq]
  exact ⟨p, h, rfl⟩
@[simp] theorem fn_i1 (ct : CloT) : (Γ_RowD_initD ct).fn "is_list" = F_is_list := by kernel_rfl
@[simp] theorem fn_i2 (ct : CloT) : (Γ_RowD_initD ct).fn "has_each" = F_has_each := by kernel_rfl
@[simp] theorem fie_i (ct : CloT) : (Γ_RowD_initD ct).field "Row" "above" = true := by kernel_rfl
@[simp] theorem fie_i2 (ct : CloT) : (Γ_RowD_initD ct).field "Row" "below" = true := by kernel_rfl
theorem nm_ab : (("above" : Str) = "below") = False := by simp; decide +kernel
def rowD (p q : List Nat) : D := .ins "Row" [("above", .tup (iN p)), ("below", .tup (iN q))]
theorem row_mk (ct : CloT) {a b : D} {p q : List Nat} {n : Nat} (g : G) (ha : seqD a = some (iN p)) (hb : seqD b = some (iN q)) (hp : Rw n p) (hq : Rw n q) (h2 : 2 ≤ n) (h8 : n ≤ 8) (hg : boxFlat g.bx = true) :
    mkR "Row" F_RowD_initD ct [a, b] g = .ok false (rowD p q) g := by
  have e1 := fun ct g => list_eq ct a g (seqD_ty ha)
  have e2 := fun ct g => list_eq ct b g (seqD_ty hb)
  have e3 := fun ct g => each_eq ct a (iN p) n g (seqD_or ha) (ty_iN p) (by rw [iN_length, hp.len]; omega) (by omega)
  have e4 := fun ct g => each_eq ct b (iN q) n g (seqD_or hb) (ty_iN q) (by rw [iN_length, hq.len]; omega) (by omega)
  unfold mkR F_RowD_initD Def.run f_RowD_initD
  have hn2 : (2 : Int) ≤ n := by omega
  have hn8 : (n : Int) ≤ 8 := by omega
  simp [startL, e1, e2, e3, e4, ha, hb, seqD_items ha, seqD_items hb, hp.len, hq.len, each_ok hp, each_ok hq, cmpD, h2, h8, hn2, hn8, putD, nm_ab, hg]
  rfl
@[simp] theorem fi_1 (c : Str) (p q : List Nat) {ok ok2 : Str → Str → Bool} (h : ok "Row" "above" = true) : semF ok ok2 "above" [rowD p q] = some (false, .tup (iN p)) := by
  unfold semF rowD
  simp only [h, if_true]
  rfl
end K03
end
section
set_option Elab.async false
set_option linter.all false
set_option maxRecDepth 100000
set_option maxHeartbeats 1000000
namespace K03
open PySem PyD
@[simp] theorem lk_row : lk2 belL "Row" "Row" = some true := by kernel_rfl
@[simp] theorem bel_nr (ct : CloT) : (Γ_need_row ct).below = lk2 belL := rfl
@[simp] theorem mk_nr (ct : CloT) : (Γ_need_row ct).mkc "BadRow" = mkX1 "BadRow" "part" := by kernel_rfl
theorem need_ok (ct : CloT) (p q : List Nat) (g : G) : F_need_row ct [rowD p q] g = .ok false .non g := by
  unfold F_need_row Def.run f_need_row
  simp [startL, rowD, iscD]
/-- no row -/
theorem need_no (ct : CloT) (d : D) (g : G) (h : (tyD d).isSome = true) : F_need_row ct [d] g = .ex "BadRow" [("part", .non)] g := by
  unfold F_need_row Def.run f_need_row
  have : iscD (Γ_need_row ct).below (Γ_need_row ct).belowX "Row" d = some false := by
    cases d <;> simp [iscD, tyD] at *
  rw [bel_nr] at this
  simp [startL, this, mkX1]
@[simp] theorem bel_eq (ct : CloT) : (Γ_RowD_eqD ct).below = lk2 belL := rfl
@[simp] theorem fie_eq1 (ct : CloT) : (Γ_RowD_eqD ct).field "Row" "above" = true := by kernel_rfl
@[simp] theorem fie_eq2 (ct : CloT) : (Γ_RowD_eqD ct).field "Row" "below" = true := by kernel_rfl
theorem fi_2 (c : Str) (p q : List Nat) {ok ok2 : Str → Str → Bool} (h : ok "Row" "below" = true) : semF ok ok2 "below" [rowD p q] = some (false, .tup (iN q)) := by
  unfold semF rowD
  simp only [h, if_true]
  kernel_rfl
theorem roweq_eq (ct : CloT) (p q p2 q2 : List Nat) (g : G) : F_RowD_eqD ct [rowD p q, rowD p2 q2] g = .ok false (.bl (decide (p = p2) && decide (q = q2))) g := by
  unfold F_RowD_eqD Def.run f_RowD_eqD
  have e1 := fi_1 "" p q (ok := (Γ_RowD_eqD ct).field) (ok2 := (Γ_RowD_eqD ct).xfield) (fie_eq1 ct)
  have e2 := fi_1 "" p2 q2 (ok := (Γ_RowD_eqD ct).field) (ok2 := (Γ_RowD_eqD ct).xfield) (fie_eq1 ct)
  have e3 := fi_2 "" p q (ok := (Γ_RowD_eqD ct).field) (ok2 := (Γ_RowD_eqD ct).xfield) (fie_eq2 ct)
  have e4 := fi_2 "" p2 q2 (ok := (Γ_RowD_eqD ct).field) (ok2 := (Γ_RowD_eqD ct).xfield) (fie_eq2 ct)
  have e5 : iscD (Γ_RowD_eqD ct).below (Γ_RowD_eqD ct).belowX "Row" (rowD p2 q2) = some true := by simp [rowD, iscD]
  rw [bel_eq] at e5
  simp [startL, e5, e1, e2, e3, e4, semB, cmpD]
  by_cases h : p = p2 <;> simp [h]
/-- where each letter stands -/
def spots (n : Nat) (p : List Nat) : List Nat := (List.range n).map fun k => p.idxOf k
theorem spots_eq (ct : CloT) {n : Nat} {p : List Nat} {d : D} (g : G) (hd : seqD d = some (iN p)) (hp : Rw n p) (hn : n < 16777216) : F_spots_told ct [d] g = .ok true (.lst (iN (spots n p))) g := by
  have hit := seqD_items hd
  unfold F_spots_told Def.run f_spots_told
  have hl : sizeLine = 16777216 := sizeLine_eq
  have hrep : binD .Mult (.lst [.int 0]) (.int (n : Int)) = some (true, .lst (iN (List.replicate n 0))) := by
    have e1 : ltI (2 ^ 63) (n : Int) = true := ltI_iff.mpr (by omega)
    simp only [binD, e1, hl]
    rw [if_pos (by simp; omega)]
    simp [iN]
  simp [startL, hit, hp.len, sem2, hrep, hl]
  refine loop_c (C := fun r => r.fn = Res.ok true (.lst (iN (spots n p))) g) (ds := enuD 0 (iN p)) (g1 := g) (fun rest loc g0 => g0 = g ∧ ∃ (i : Nat) (f : List Nat) (a b : Option (Bool × D)), rest = enuD i (iN (p.drop i)) ∧ i ≤ n ∧ loc = [some (false, d), some (true, .lst (iN f)), a, b] ∧ f.length = n ∧ ∀ k, k ∈ p.take i → f[k]? = some (p.idxOf k)) ?_ ?_ ?_ ?_
  · simp [enuA, hit]
  · exact ⟨rfl, 0, List.replicate n 0, none, none, rfl, Nat.zero_le _, rfl, by simp, fun k hk => by simp at hk⟩
  · rintro x r loc _ ⟨rfl, i, f, a, b, hr, hin, rfl, hfl, hf⟩
    obtain ⟨c, hc, rfl, rfl⟩ := enu_step hr
    have hcn : c < n := hp.mem.mp (List.mem_of_getElem? hc)
    have hi : i < p.length := (List.getElem?_eq_some_iff.mp hc).1
    refine ⟨_, _, _, rfl, by simp [ownL, hfl, hcn, setL, iN_set]; exact ⟨rfl, rfl⟩, rfl, i + 1, f.set c i, _, _, by simp, by rw [hp.len] at hi; omega, rfl, by simp [hfl], fun k hk => ?_⟩
    have hix : p.idxOf c = i := by
      have h1 := (List.getElem?_eq_some_iff.mp hc).2
      rw [← h1]
      exact List.Nodup.idxOf_getElem hp.nd i hi
    rw [List.take_succ, hc] at hk
    simp only [Option.toList_some, List.mem_append, List.mem_singleton] at hk
    by_cases hkc : k = c
    · subst hkc
      rw [List.getElem?_set_self (by rw [hfl]; exact hcn), hix]
    · rw [List.getElem?_set_ne (Ne.symm hkc)]
      exact hf k (hk.resolve_right hkc)
  · rintro l' _ ⟨rfl, i, f, a, b, hr, hin, rfl, hfl, hf⟩
    have := enu_end hr
    simp
    refine List.ext_getElem? fun k => ?_
    by_cases hk : k < n
    · rw [hf k (by rw [List.take_of_length_le this]; exact hp.mem.mpr hk)]
      simp [spots, hk]
    · rw [List.getElem?_eq_none (by omega), List.getElem?_eq_none (by simp [spots]; omega)]
end K03
end
section
set_option Elab.async false
set_option linter.all false
set_option maxRecDepth 100000
set_option maxHeartbeats 1000000
namespace K03
open PySem PyD
@[simp] theorem fn_pt (ct : CloT) : (Γ_parts_told ct).fn "spots_told" = F_spots_told := by kernel_rfl
/-- the first m letters below are the first m above -/
def cutB (p q : List Nat) (m : Nat) : Bool := (q.take m).all fun x => decide (p.idxOf x < m)
def parts (n : Nat) (p q : List Nat) : List Nat := (List.range' 1 (n - 1)).filter (cutB p q)
theorem spots_get {n : Nat} {p : List Nat} {x : Nat} (h : x < n) : (spots n p)[x]? = some (p.idxOf x) := by simp [spots, h]
theorem take_spots {n m : Nat} {p q : List Nat} (hp : Rw n p) (hq : Rw n q) (hm : m ≤ n) {v : Nat} (hv : ∀ x ∈ q.take m, p.idxOf x ≤ v) : m ≤ v + 1 := by
  have h1 : ((q.take m).map fun x => p.idxOf x).Nodup := by
    have h0 : (q.take m).Nodup := (List.take_sublist m q).nodup hq.nd
    refine List.pairwise_map.mpr (h0.imp_of_mem ?_)
    intro a b ha hb hab e
    have ha' : a ∈ p := hp.mem.mpr (hq.mem.mp (List.mem_of_mem_take ha))
    have hb' : b ∈ p := hp.mem.mpr (hq.mem.mp (List.mem_of_mem_take hb))
    have e1 := List.getElem_idxOf (List.idxOf_lt_length_iff.mpr ha')
    have e2 := List.getElem_idxOf (List.idxOf_lt_length_iff.mpr hb')
    apply hab
    rw [← e1, ← e2]
    simp only [e]
  have := nodup_le (m := List.range (v + 1)) h1 fun y hy => by
    obtain ⟨x, hx, rfl⟩ := List.mem_map.mp hy
    exact List.mem_range.mpr (Nat.lt_succ_of_le (hv x hx))
  rw [List.length_map, List.length_take, hq.len, List.length_range] at this
  omega
theorem parts_eq (ct : CloT) {n : Nat} {p q : List Nat} (g : G) (hp : Rw n p) (hq : Rw n q) (h1 : 1 ≤ n) (hn : n < 16777216) : F_parts_told ct [.tup (iN p), .tup (iN q)] g = .ok true (.lst (iN (parts n p q))) g := by
  have es := fun ct g => spots_eq ct (d := .tup (iN p)) g rfl hp hn
  unfold F_parts_told Def.run f_parts_told
  have hl : sizeLine = 16777216 := sizeLine_eq
  simp [startL, es, hl]
  have hsl : slcD (.tup (iN q)) none (some (-1)) = some (false, .tup (iN (q.take (n - 1)))) := by
    have hs : HT.sIx (iN q).length (iN q).length (some (-1)) = n - 1 := by
      rw [iN_length, hq.len]
      show (if (-1 : Int) < 0 then ((-1 : Int) + (n : Int)).toNat else min (-1 : Int).toNat n) = n - 1
      rw [if_pos (by omega)]
      omega
    have h0 : HT.sIx (iN q).length 0 none = 0 := rfl
    simp only [slcD, sliceL, hs, h0, List.drop_zero, Nat.sub_zero]
    simp [iN, List.map_take]
  refine loop_c (C := fun r => r.fn = Res.ok true (.lst (iN (parts n p q))) g) (ds := enuD 1 (iN (q.take (n - 1)))) (g1 := g) (fun rest loc g0 => g0 = g ∧ ∃ (i : Nat) (v : Int) (a b : Option (Bool × D)), rest = enuD (i + 1 : Nat) (iN ((q.take (n - 1)).drop i)) ∧ i ≤ n - 1 ∧ loc = [some (false, .tup (iN p)), some (false, .tup (iN q)), some (false, .lst (iN (spots n p))), some (true, .lst (iN ((List.range' 1 i).filter (cutB p q)))), some (false, .int v), a, b] ∧ (∀ x ∈ q.take i, (p.idxOf x : Int) ≤ v) ∧ (i = 0 ∧ v = -1 ∨ ∃ x ∈ q.take i, v = p.idxOf x)) ?_ ?_ ?_ ?_
  · have e62 : small62 1 = true := by decide
    simp [hsl, enuA, e62]
  · exact ⟨rfl, 0, -1, none, none, rfl, Nat.zero_le _, rfl, fun x hx => by simp at hx, .inl ⟨rfl, rfl⟩⟩
  · rintro x r loc _ ⟨rfl, i, v, a, b, hr, hin, rfl, hv1, hv2⟩
    obtain ⟨c, hc, rfl, rfl⟩ := enu_step hr
    have hi : i < n - 1 := by
      have := (List.getElem?_eq_some_iff.mp hc).1
      rw [List.length_take, hq.len] at this
      omega
    have hcq : q[i]? = some c := by rw [← hc, List.getElem?_take_of_lt hi]
    have hcn : c < n := hq.mem.mp (List.mem_of_getElem? hcq)
    have hix : idxD (.lst (iN (spots n p))) (.int c) = some (.int (p.idxOf c)) := idx_iN rfl (spots_get hcn)
    have htk : q.take (i + 1) = q.take i ++ [c] := by rw [List.take_succ, hcq]; rfl
    have hV1 : ∀ x ∈ q.take (i + 1), (p.idxOf x : Int) ≤ max v (p.idxOf c) := fun x hx => by
      rw [htk] at hx
      rcases List.mem_append.mp hx with h | h
      · have := hv1 x h; omega
      · rw [List.mem_singleton.mp h]; omega
    have hV2 : ∃ x ∈ q.take (i + 1), max v (p.idxOf c) = (p.idxOf x : Int) := by
      by_cases hvc : v ≤ (p.idxOf c : Int)
      · exact ⟨c, by rw [htk]; simp, by omega⟩
      · rcases hv2 with ⟨_, rfl⟩ | ⟨x, hx, e⟩
        · omega
        · exact ⟨x, by rw [htk]; exact List.mem_append_left _ hx, by omega⟩
    clear hv2
    have hcut : (max v (p.idxOf c : Int) = i) ↔ cutB p q (i + 1) = true := by
      obtain ⟨y, hy, hy2⟩ := hV2
      have hts := take_spots hp hq (m := i + 1) (v := p.idxOf y) (by omega) fun x hx => by have := hV1 x hx; omega
      simp only [cutB, List.all_eq_true, decide_eq_true_eq]
      constructor
      · intro h x hx
        have := hV1 x hx
        omega
      · intro h
        have := h y hy
        omega
    have hV3 := hV2
    clear hV2
    have hr1 : List.range' 1 (i + 1) = List.range' 1 i ++ [i + 1] := by
      rw [List.range'_concat]
      simp
      omega
    have hlen : ((List.range' 1 i).filter (cutB p q)).length < 16777216 := by
      clear hV3 hcut
      have := List.length_filter_le (cutB p q) (List.range' 1 i)
      rw [List.length_range'] at this
      omega
    by_cases hc2 : cutB p q (i + 1) = true
    · have hm : max v (p.idxOf c : Int) = i := hcut.mpr hc2
      refine ⟨_, _, _, rfl, by simp [hix, hl, hm, hlen]; first | exact ⟨rfl, rfl⟩ | exact rfl, rfl, i + 1, i, some (false, .int ((i : Int) + 1)), some (false, .int c), rfl, by omega, ?_, fun x hx => by rw [← hm]; exact hV1 x hx, .inr (by rw [← hm]; exact hV3)⟩
      rw [hr1]
      simp [hc2]
    · have hm : ¬ max v (p.idxOf c : Int) = i := fun h => hc2 (hcut.mp h)
      refine ⟨_, _, _, rfl, by simp [hix, hl, hm, hlen]; first | exact ⟨rfl, rfl⟩ | exact rfl, rfl, i + 1, max v (p.idxOf c), some (false, .int ((i : Int) + 1)), some (false, .int c), rfl, by omega, ?_, hV1, .inr hV3⟩
      rw [hr1]
      simp [hc2]
  · rintro l' _ ⟨rfl, i, v, a, b, hr, hin, rfl, _, _⟩
    have := enu_end hr
    rw [List.length_take, hq.len] at this
    have hi : i = n - 1 := by omega
    subst hi
    simp [parts]
end K03
end
section
set_option Elab.async false
set_option linter.all false
set_option maxRecDepth 100000
set_option maxHeartbeats 1000000
namespace K03
open PySem PyD
theorem fi1 {p q : List Nat} {ok ok2 : Str → Str → Bool} (h : ok "Row" "above" = true) : semF ok ok2 "above" [rowD p q] = some (false, .tup (iN p)) := fi_1 "" p q h
theorem fi2 {p q : List Nat} {ok ok2 : Str → Str → Bool} (h : ok "Row" "below" = true) : semF ok ok2 "below" [rowD p q] = some (false, .tup (iN q)) := fi_2 "" p q h
@[simp] theorem fn_w1 (ct : CloT) : (Γ_is_whole ct).fn "need_row" = F_need_row := by kernel_rfl
@[simp] theorem fn_w2 (ct : CloT) : (Γ_is_whole ct).fn "parts_told" = F_parts_told := by kernel_rfl
theorem whole_eq (ct : CloT) {n : Nat} {p q : List Nat} (g : G) (hp : Rw n p) (hq : Rw n q) (h1 : 1 ≤ n) (hn : n < 16777216) : F_is_whole ct [rowD p q] g = .ok false (.bl (decide (parts n p q = []))) g := by
  unfold F_is_whole Def.run f_is_whole
  have e1 := fi1 (p := p) (q := q) (ok := (Γ_is_whole ct).field) (ok2 := (Γ_is_whole ct).xfield) (by kernel_rfl)
  have e2 := fi2 (p := p) (q := q) (ok := (Γ_is_whole ct).field) (ok2 := (Γ_is_whole ct).xfield) (by kernel_rfl)
  have e3 := fun ct g => parts_eq ct g hp hq h1 hn
  have e4 : eqD (.lst (iN (parts n p q))) (.lst []) = some (decide (parts n p q = [])) := eqD_lN (parts n p q) []
  simp [startL, need_ok, e1, e2, e3, e4]
@[simp] theorem fn_t1 (ct : CloT) : (Γ_told_shape ct).fn "spots_told" = F_spots_told := by kernel_rfl
/-- the shape -/
def shp (p q : List Nat) : List Nat := q.map fun k => p.idxOf k
theorem map_iN (f : Nat → Nat) (h : D → D) (l : List Nat) (e : ∀ k ∈ l, h (.int (k : Int)) = .int (f k : Int)) : (iN l).map h = iN (l.map f) := by
  unfold iN
  rw [List.map_map, List.map_map]
  exact List.map_congr_left fun k hk => e k hk
theorem told_eq (ct : CloT) {n : Nat} {p q : List Nat} (g : G) (hp : Rw n p) (hq : Rw n q) (hn : n < 16777216) : F_told_shape ct [.tup (iN p), .tup (iN q)] g = .ok false (.tup (iN (shp p q))) g := by
  unfold F_told_shape Def.run f_told_shape
  have es := fun ct g => spots_eq ct (d := .tup (iN p)) g rfl hp hn
  have hl : sizeLine = 16777216 := sizeLine_eq
  let h : D → D := fun d => match d with | .int i => .int (p.idxOf i.toNat : Nat) | d => d
  have hix : ∀ x ∈ q, idxD (.lst (iN (spots n p))) (.int (x : Int)) = some (.int (p.idxOf x)) := fun x hx => idx_iN rfl (spots_get (hq.mem.mp hx))
  simp [startL, es]
  rw [compD_map (h := h) (fun x _ => ⟨_, rfl⟩) (fun x hx => ?_)]
  · have hm : (iN q).map h = iN (shp p q) := map_iN _ h q fun k _ => by simp [h]
    simp [hm, hl, shp, hq.len, hn]
  · obtain ⟨k, hk, rfl⟩ := List.mem_map.mp hx
    exact ⟨false, by simp [hix k hk, h]⟩
@[simp] theorem fn_so1 (ct : CloT) : (Γ_shape_of ct).fn "need_row" = F_need_row := by kernel_rfl
@[simp] theorem fn_so2 (ct : CloT) : (Γ_shape_of ct).fn "told_shape" = F_told_shape := by kernel_rfl
theorem shape_eq (ct : CloT) {n : Nat} {p q : List Nat} (g : G) (hp : Rw n p) (hq : Rw n q) (hn : n < 16777216) : F_shape_of ct [rowD p q] g = .ok false (.tup (iN (shp p q))) g := by
  unfold F_shape_of Def.run f_shape_of
  have e1 := fi1 (p := p) (q := q) (ok := (Γ_shape_of ct).field) (ok2 := (Γ_shape_of ct).xfield) (by kernel_rfl)
  have e2 := fi2 (p := p) (q := q) (ok := (Γ_shape_of ct).field) (ok2 := (Γ_shape_of ct).xfield) (by kernel_rfl)
  have e3 := fun ct g => told_eq ct g hp hq hn
  simp [startL, need_ok, e1, e2, e3]
theorem shape_no (ct : CloT) (d : D) (g : G) (h : (tyD d).isSome = true) : F_shape_of ct [d] g = .ex "BadRow" [("part", .non)] g := by
  unfold F_shape_of Def.run f_shape_of
  simp [startL, need_no _ _ _ h]
open Classical in
noncomputable def shapeB (d : D) : Bool := match d with
  | .tup l => decide (2 ≤ l.length ∧ l.length ≤ 8) && eachB l l.length
  | _ => false
@[simp] theorem fn_is1 (ct : CloT) : (Γ_is_shape ct).fn "has_each" = F_has_each := by kernel_rfl
theorem tup_isTy {d : D} (h : ∀ l, d ≠ .tup l) : isTy "tuple" d = false := by
  cases d <;> simp [isTy] at *
theorem isshape_eq (ct : CloT) (d : D) (g : G) (h : (tyD d).isSome = true) (hl : ∀ l, d = .tup l → ∀ x ∈ l, (tyD x).isSome = true) : F_is_shape ct [d] g = .ok false (.bl (shapeB d)) g := by
  unfold F_is_shape Def.run f_is_shape
  by_cases ht : ∃ l, d = .tup l
  · obtain ⟨l, rfl⟩ := ht
    have e1 : isTy "tuple" (.tup l) = true := rfl
    simp [startL, h, e1]
    by_cases h2 : (2 : Int) ≤ l.length
    · by_cases h8 : (l.length : Int) ≤ 8
      · have e3 := fun ct g => each_eq ct (.tup l) l l.length g (.inl rfl) (hl l rfl) (by omega) (by omega)
        have : 2 ≤ l.length ∧ l.length ≤ 8 := by omega
        simp [h2, h8, e3, shapeB, this]
      · have : ¬ (2 ≤ l.length ∧ l.length ≤ 8) := by omega
        simp [h2, h8, shapeB, this]
    · have : ¬ (2 ≤ l.length ∧ l.length ≤ 8) := by omega
      simp [h2, shapeB, this]
  · have e1 : isTy "tuple" d = false := tup_isTy fun l e => ht ⟨l, e⟩
    have e2 : shapeB d = false := by
      cases d <;> first | rfl | exact absurd ⟨_, rfl⟩ ht
    simp [startL, h, e1, e2]
@[simp] theorem fn_ns1 (ct : CloT) : (Γ_need_shape ct).fn "is_shape" = F_is_shape := by kernel_rfl
@[simp] theorem mk_ns1 (ct : CloT) : (Γ_need_shape ct).mkc "BadShape" = mkX0 "BadShape" := by kernel_rfl
theorem needsh_eq (ct : CloT) (d : D) (g : G) (h : (tyD d).isSome = true) (hl : ∀ l, d = .tup l → ∀ x ∈ l, (tyD x).isSome = true) : F_need_shape ct [d] g = if shapeB d = true then .ok false .non g else .ex "BadShape" [] g := by
  unfold F_need_shape Def.run f_need_shape
  have e1 := fun ct g => isshape_eq ct d g h hl
  cases hs : shapeB d <;> simp [startL, e1, hs, mkX0]
end K03
end
section
set_option Elab.async false
set_option linter.all false
set_option maxRecDepth 100000
set_option maxHeartbeats 1000000
namespace K03
open PySem PyD
@[simp] theorem fn_rs1 (ct : CloT) : (Γ_row_of_shape ct).fn "need_shape" = F_need_shape := by kernel_rfl
@[simp] theorem mk_rs1 (ct : CloT) : (Γ_row_of_shape ct).mkc "Row" = mkR "Row" F_RowD_initD := by kernel_rfl
theorem shapeB_row {n : Nat} {s : List Nat} (h : Rw n s) (h2 : 2 ≤ n) (h8 : n ≤ 8) : shapeB (.tup (iN s)) = true := by
  simp [shapeB, h.len, h2, h8, each_ok h]
theorem ty_tup (l : List D) : (tyD (.tup l)).isSome = true := rfl
theorem rowof_eq (ct : CloT) {n : Nat} {s : List Nat} (g : G) (hs : Rw n s) (h2 : 2 ≤ n) (h8 : n ≤ 8) (hg : boxFlat g.bx = true) : F_row_of_shape ct [.tup (iN s)] g = .ok false (rowD (List.range n) s) g := by
  unfold F_row_of_shape Def.run f_row_of_shape
  have e1 := fun ct g => needsh_eq ct (.tup (iN s)) g rfl (fun l e => by cases e; exact ty_iN s)
  have e2 := rngD_nat (n := n) (by omega)
  have e3 := fun ct => row_mk ct (a := .tup (iN (List.range n))) (b := .tup (iN s)) g rfl rfl (Rw.range n) hs h2 h8 hg
  have hl : sizeLine = 16777216 := sizeLine_eq
  have h9 : n ≤ 16777216 := by omega
  simp [startL, e1, shapeB_row hs h2 h8, hs.len, e2, hl, h9, e3]
theorem rowof_no (ct : CloT) (d : D) (g : G) (h : (tyD d).isSome = true) (hl : ∀ l, d = .tup l → ∀ x ∈ l, (tyD x).isSome = true) (hb : shapeB d = false) : F_row_of_shape ct [d] g = .ex "BadShape" [] g := by
  unfold F_row_of_shape Def.run f_row_of_shape
  simp [startL, needsh_eq _ _ _ h hl, hb]
@[simp] theorem fn_rn1 (ct : CloT) : (Γ_renamed ct).fn "need_row" = F_need_row := by kernel_rfl
@[simp] theorem fn_rn2 (ct : CloT) : (Γ_renamed ct).fn "is_list" = F_is_list := by kernel_rfl
@[simp] theorem fn_rn3 (ct : CloT) : (Γ_renamed ct).fn "has_each" = F_has_each := by kernel_rfl
@[simp] theorem mk_rn1 (ct : CloT) : (Γ_renamed ct).mkc "Row" = mkR "Row" F_RowD_initD := by kernel_rfl
@[simp] theorem mk_rn2 (ct : CloT) : (Γ_renamed ct).mkc "BadLetters" = mkX0 "BadLetters" := by kernel_rfl
/-- the letters by their names -/
def nmd (N p : List Nat) : List Nat := p.map fun k => N.getD k 0
theorem nmd_rw {n : Nat} {N p : List Nat} (hN : Rw n N) (hp : Rw n p) : Rw n (nmd N p) := by
  refine Rw.of ?_ (by simp [nmd, hp.len]) fun x hx => ?_
  · refine List.pairwise_map.mpr (hp.nd.imp_of_mem ?_)
    intro a b ha hb hab e
    have ha' := hp.mem.mp ha
    have hb' := hp.mem.mp hb
    have la : a < N.length := by rw [hN.len]; exact ha'
    have lb : b < N.length := by rw [hN.len]; exact hb'
    simp only [List.getD_eq_getElem?_getD, List.getElem?_eq_getElem la, List.getElem?_eq_getElem lb, Option.getD_some] at e
    exact hab ((List.getElem?_inj la hN.nd).mp (by rw [List.getElem?_eq_getElem la, List.getElem?_eq_getElem lb, e]))
  · obtain ⟨k, hk, rfl⟩ := List.mem_map.mp hx
    have lk : k < N.length := by rw [hN.len]; exact hp.mem.mp hk
    rw [List.getD_eq_getElem?_getD, List.getElem?_eq_getElem lk, Option.getD_some]
    exact hN.mem.mp (List.getElem_mem lk)
theorem renamed_eq (ct : CloT) {n : Nat} {p q N : List Nat} {d : D} (g : G) (hd : seqD d = some (iN N)) (hp : Rw n p) (hq : Rw n q) (hN : Rw n N) (h2 : 2 ≤ n) (h8 : n ≤ 8) (hg : boxFlat g.bx = true) : F_renamed ct [rowD p q, d] g = .ok false (rowD (nmd N p) (nmd N q)) g := by
  unfold F_renamed Def.run f_renamed
  have e1 := fi1 (p := p) (q := q) (ok := (Γ_renamed ct).field) (ok2 := (Γ_renamed ct).xfield) (by kernel_rfl)
  have e2 := fi2 (p := p) (q := q) (ok := (Γ_renamed ct).field) (ok2 := (Γ_renamed ct).xfield) (by kernel_rfl)
  have e3 := fun ct g => list_eq ct d g (seqD_ty hd)
  have e4 := fun ct g => each_eq ct d (iN N) n g (seqD_or hd) (ty_iN N) (by rw [iN_length, hN.len]; omega) (by omega)
  have hl : sizeLine = 16777216 := sizeLine_eq
  let h : D → D := fun x => match x with | .int i => .int (N.getD i.toNat 0 : Nat) | x => x
  have hm : ∀ r : List Nat, (iN r).map h = iN (nmd N r) := fun r => map_iN _ h r fun k _ => by simp [h]
  have hix : ∀ x, x < n → idxD d (.int (x : Int)) = some (.int (N.getD x 0 : Nat)) := fun x hx => by
    have lx : x < N.length := by rw [hN.len]; exact hx
    refine idx_iN (seqD_items hd) ?_
    rw [List.getD_eq_getElem?_getD, List.getElem?_eq_getElem lx, Option.getD_some]
  have hc : ∀ (r : List Nat) (a b : Option (Bool × D)), Rw n r → compD (fun x g' => match bindT (T.s 2) x [a, some (false, d), none] with | some l => den (Γ_renamed ct).nc ((E.b 1).idx (E.b 2)) l g' | none => .bad) (fun x g' => match bindT (T.s 2) x [a, some (false, d), none] with | some l => denC (Γ_renamed ct).nc [] l g' | none => .bad) (iN r) g = .ok (iN (nmd N r)) g := fun r a b hr => by
    rw [← hm r]
    refine compD_map (fun x _ => ⟨false, by simp⟩) (fun x hx => ?_)
    obtain ⟨k, hk, rfl⟩ := List.mem_map.mp hx
    exact ⟨false, by simp [hix k (hr.mem.mp hk), h]⟩
  have e5 := fun ct => row_mk ct (a := .lst (iN (nmd N p))) (b := .lst (iN (nmd N q))) g rfl rfl (nmd_rw hN hp) (nmd_rw hN hq) h2 h8 hg
  have l1 : (nmd N p).length < 16777216 := by rw [(nmd_rw hN hp).len]; omega
  have l2 : (nmd N q).length < 16777216 := by rw [(nmd_rw hN hq).len]; omega
  have hc1 := hc p (some (false, rowD p q)) none hp
  have hc2 := hc q (some (false, rowD p q)) none hq
  simp at hc1 hc2
  simp [startL, need_ok, e1, e2, e3, hd, hp.len, e4, each_ok hN, hl, l1, l2, hc1, hc2, e5]
theorem renamed_no (ct : CloT) (d d2 : D) (g : G) (h : (tyD d).isSome = true) : F_renamed ct [d, d2] g = .ex "BadRow" [("part", .non)] g := by
  unfold F_renamed Def.run f_renamed
  simp [startL, need_no _ _ _ h]
theorem renamed_bad (ct : CloT) {n : Nat} {p q : List Nat} {d : D} (g : G) (hp : Rw n p) (hq : Rw n q) (h : (tyD d).isSome = true) (hn : n < 16777216) (hb : seqD d = none ∨ ∃ l, seqD d = some l ∧ (∀ x ∈ l, (tyD x).isSome = true) ∧ l.length < 16777216 ∧ eachB l n = false) : F_renamed ct [rowD p q, d] g = .ex "BadLetters" [] g := by
  unfold F_renamed Def.run f_renamed
  have e1 := fi1 (p := p) (q := q) (ok := (Γ_renamed ct).field) (ok2 := (Γ_renamed ct).xfield) (by kernel_rfl)
  have e3 := fun ct g => list_eq ct d g h
  rcases hb with hb | ⟨l, hb, hty, hll, he⟩
  · simp [startL, need_ok, e1, e3, hb, mkX0]
  · have e4 := fun ct g => each_eq ct d l n g (seqD_or hb) hty hll hn
    simp [startL, need_ok, e1, e3, hb, hp.len, e4, he, mkX0]
@[simp] theorem fn_to1 (ct : CloT) : (Γ_turned_over ct).fn "need_row" = F_need_row := by kernel_rfl
@[simp] theorem mk_to1 (ct : CloT) : (Γ_turned_over ct).mkc "Row" = mkR "Row" F_RowD_initD := by kernel_rfl
theorem over_eq (ct : CloT) {n : Nat} {p q : List Nat} (g : G) (hp : Rw n p) (hq : Rw n q) (h2 : 2 ≤ n) (h8 : n ≤ 8) (hg : boxFlat g.bx = true) : F_turned_over ct [rowD p q] g = .ok false (rowD q p) g := by
  unfold F_turned_over Def.run f_turned_over
  have e1 := fi1 (p := p) (q := q) (ok := (Γ_turned_over ct).field) (ok2 := (Γ_turned_over ct).xfield) (by kernel_rfl)
  have e2 := fi2 (p := p) (q := q) (ok := (Γ_turned_over ct).field) (ok2 := (Γ_turned_over ct).xfield) (by kernel_rfl)
  have e5 := fun ct => row_mk ct (a := .tup (iN q)) (b := .tup (iN p)) g rfl rfl hq hp h2 h8 hg
  simp [startL, need_ok, e1, e2, e5]
theorem over_no (ct : CloT) (d : D) (g : G) (h : (tyD d).isSome = true) : F_turned_over ct [d] g = .ex "BadRow" [("part", .non)] g := by
  unfold F_turned_over Def.run f_turned_over
  simp [startL, need_no _ _ _ h]
@[simp] theorem fn_ta1 (ct : CloT) : (Γ_turned_about ct).fn "need_row" = F_need_row := by kernel_rfl
@[simp] theorem mk_ta1 (ct : CloT) : (Γ_turned_about ct).mkc "Row" = mkR "Row" F_RowD_initD := by kernel_rfl
theorem about_eq (ct : CloT) {n : Nat} {p q : List Nat} (g : G) (hp : Rw n p) (hq : Rw n q) (h2 : 2 ≤ n) (h8 : n ≤ 8) (hg : boxFlat g.bx = true) : F_turned_about ct [rowD p q] g = .ok false (rowD p.reverse q.reverse) g := by
  unfold F_turned_about Def.run f_turned_about
  have e1 := fi1 (p := p) (q := q) (ok := (Γ_turned_about ct).field) (ok2 := (Γ_turned_about ct).xfield) (by kernel_rfl)
  have e2 := fi2 (p := p) (q := q) (ok := (Γ_turned_about ct).field) (ok2 := (Γ_turned_about ct).xfield) (by kernel_rfl)
  have e5 := fun ct => row_mk ct (a := .tup (iN p.reverse)) (b := .tup (iN q.reverse)) g rfl rfl hp.rev hq.rev h2 h8 hg
  simp [startL, need_ok, e1, e2, e5]
theorem about_no (ct : CloT) (d : D) (g : G) (h : (tyD d).isSome = true) : F_turned_about ct [d] g = .ex "BadRow" [("part", .non)] g := by
  unfold F_turned_about Def.run f_turned_about
  simp [startL, need_no _ _ _ h]
end K03
end
section
set_option Elab.async false
set_option linter.all false
set_option maxRecDepth 100000
set_option maxHeartbeats 1000000
namespace K03
open PySem PyD
/-- the draw at hand -/
def Drw (g : G) : Prop := ∃ large rest cells turn, g = ⟨[.drw large rest cells turn]⟩
theorem Drw.flat {g : G} (h : Drw g) : boxFlat g.bx = true := by
  obtain ⟨_, _, _, _, rfl⟩ := h
  rfl
theorem ints_map (l : List Int) : D.ints (l.map D.int) = some l := by
  induction l with
  | nil => rfl
  | cons a l ih => simp [D.ints, ih]
theorem mixed_eq (ct : CloT) (large cells : List Int) (rest turn : Int) : ∃ z, F__law_mixed ct [.box 0] ⟨[.drw large rest cells turn]⟩ = .ok false (.int z) ⟨[.drw large rest cells (turn + 1)]⟩ := by
  unfold F__law_mixed Def.run f__law_mixed
  have k1 : ltI (2 ^ 30) 13 = true := by decide
  have k2 : smallI 69621 = true := by decide
  have k3 : smallI 48271 = true := by decide
  have k4 : smallI 2147483647 = true := by decide
  have hl : sizeLine = 16777216 := sizeLine_eq
  simp [startL]
  refine loop_d (C := fun r => ∃ z, ResS.fn r = Res.ok false (.int z) ⟨[.drw large rest cells (turn + 1)]⟩) (ds := [D.int 2147483629, D.int 2147483587, D.int 2147483579, D.int 2147483563]) (g1 := ⟨[.drw large rest cells (turn + 1)]⟩) (fun ds loc g0 => g0 = ⟨[.drw large rest cells (turn + 1)]⟩ ∧ (∀ x ∈ ds, ∃ m : Int, x = .int m ∧ 0 < m ∧ m < 2 ^ 31) ∧ ∃ (a c d : Option (Bool × D)) (f : Int), loc = [some (false, .box 0), a, some (false, .int (turn + 1)), some (false, .int f), c, d]) ?_ ?_ ?_ ?_
  · simp [hl]
  · refine ⟨rfl, ?_, none, none, none, 0, rfl⟩
    simp
  · rintro x r loc _ ⟨rfl, hx, a, c, d, f, rfl⟩
    obtain ⟨m, rfl, h0, h1⟩ := hx x List.mem_cons_self
    have hr : ∀ y ∈ r, ∃ m : Int, y = .int m ∧ 0 < m ∧ m < 2 ^ 31 := fun y hy => hx y (List.mem_cons_of_mem _ hy)
    refine ⟨_, rfl, ?_⟩
    simp [k1, k2, h0]
    refine loop_c (C := fun r0 => ∃ l' g', r0 = ResS.nx l' g' ∧ g' = ⟨[.drw large rest cells (turn + 1)]⟩ ∧ (∀ x ∈ r, ∃ m : Int, x = .int m ∧ 0 < m ∧ m < 2 ^ 31) ∧ ∃ (a c d : Option (Bool × D)) (f : Int), l' = [some (false, .box 0), a, some (false, .int (turn + 1)), some (false, .int f), c, d]) (ds := cells.map D.int) (g1 := ⟨[.drw large rest cells (turn + 1)]⟩) (fun ds loc g0 => g0 = ⟨[.drw large rest cells (turn + 1)]⟩ ∧ (∀ x ∈ ds, ∃ z : Int, x = .int z) ∧ ∃ (b : Int) (d : Option (Bool × D)), 0 ≤ b ∧ b < m ∧ loc = [some (false, .box 0), some (false, .int m), some (false, .int (turn + 1)), some (false, .int f), some (false, .int b), d]) ?_ ?_ ?_ ?_
    · simp
    · exact ⟨rfl, fun x hx => by obtain ⟨z, _, rfl⟩ := List.mem_map.mp hx; exact ⟨z, rfl⟩, _, d, Int.emod_nonneg _ (by omega), Int.emod_lt_of_pos _ h0, rfl⟩
    · rintro x r2 loc _ ⟨rfl, hx2, b, d2, b0, b1, rfl⟩
      obtain ⟨z, rfl⟩ := hx2 x List.mem_cons_self
      refine ⟨_, _, _, rfl, by simp [k3, h0]; exact ⟨rfl, rfl⟩, rfl, fun y hy => hx2 y (List.mem_cons_of_mem _ hy), _, _, Int.emod_nonneg _ (by omega), Int.emod_lt_of_pos _ h0, rfl⟩
    · rintro l' _ ⟨rfl, _, b, d2, b0, b1, rfl⟩
      have k5 : smallI b = true := smallI_iff.mpr ⟨by omega, by omega⟩
      refine ⟨[some (false, .box 0), some (false, .int m), some (false, .int (turn + 1)), some (false, .int (f * 2147483647 + b ^ 5 % m)), some (false, .int b), d2], ⟨[.drw large rest cells (turn + 1)]⟩, ?_, rfl, hr, _, _, _, _, rfl⟩
      simp [k4, k5, h0]
  · rintro l' _ ⟨rfl, _, a, c, d, f, rfl⟩
    exact ⟨f, by simp⟩
@[simp] theorem fn_tk (ct : CloT) : (Γ__law_take ct).fn "_law_mixed" = F__law_mixed := by kernel_rfl
theorem okD_ints (l : List Int) : okD (.lst (l.map D.int)) = true := by simp [okD, nb, dpD]
theorem take_eq (ct : CloT) (n : Nat) (g : G) (h0 : 0 < n) (hn : n < 2 ^ 30) (hg : Drw g) : ∃ (r : Nat) (g' : G), r < n ∧ Drw g' ∧ F__law_take ct [.box 0, .int n] g = .ok false (.int r) g' := by
  obtain ⟨large, rest, cells, turn, rfl⟩ := hg
  have k1 : ltI (2 ^ 30) (n : Int) = true := ltI_iff.mpr (by omega)
  have k0 : (0 : Int) < n := by omega
  have fin : ∀ (large cells : List Int) (rest turn : Int), ∃ (r : Nat) (g' : G), r < n ∧ Drw g' ∧ (exes (Γ__law_take ct) [(.asg (.s 2) (.bin .Mod (.bi "int" [(.dg 0 "rest")]) (.b 1))), (.dput 0 "rest" (.bin .FloorDiv (.bi "int" [(.dg 0 "rest")]) (.b 1))), (.ret (.v 2))] [some (false, .box 0), some (false, .int n), none] ⟨[.drw large rest cells turn]⟩).fn = .ok false (.int r) g' := by
    intro large cells rest turn
    have e1 := Int.emod_nonneg rest (show (n : Int) ≠ 0 by omega)
    have e2 := Int.emod_lt_of_pos rest k0
    refine ⟨(rest % n).toNat, ⟨[.drw large (rest / n) cells turn]⟩, by omega, ⟨_, _, _, _, rfl⟩, ?_⟩
    simp [k0, k1, h0]
    omega
  unfold F__law_take Def.run f__law_take
  by_cases hr : rest = 0
  · subst hr
    by_cases hl : large = []
    · subst hl
      obtain ⟨z, hz⟩ := mixed_eq ((Γ__law_take ct).sub [some (false, .box 0), some (false, .int n), none]) [] cells 0 turn
      have e3 : eqD (.lst []) (.lst []) = some true := eqD_self rfl
      have := fin [] cells z (turn + 1)
      simp only [xs_cons, startL] at this ⊢
      simp [e3, hz] at this ⊢
      exact this
    · obtain ⟨z, l, rfl⟩ := List.exists_cons_of_ne_nil hl
      have e3 : eqD (.lst (D.int z :: l.map D.int)) (.lst []) = some false := eqD_ne (okD_ints (z :: l)) rfl (by simp)
      have := fin l cells z turn
      simp only [xs_cons, startL] at this ⊢
      simp [e3] at this ⊢
      exact this
  · have := fin large cells rest turn
    simp only [xs_cons, startL] at this ⊢
    simp [hr] at this ⊢
    exact this
end K03
end
section
set_option Elab.async false
set_option linter.all false
set_option maxRecDepth 100000
set_option maxHeartbeats 1000000
namespace K03
open PySem PyD
@[simp] theorem fn_pk (ct : CloT) : (Γ__law_pick ct).fn "_law_take" = F__law_take := by kernel_rfl
theorem pick_eq (ct : CloT) (d : D) (l : List D) (g : G) (hd : d.items = some l) (h0 : l ≠ []) (hl : l.length < 2 ^ 30) (hg : Drw g) : ∃ (x : D) (g' : G), x ∈ l ∧ Drw g' ∧ F__law_pick ct [.box 0, d] g = .ok false x g' := by
  have hp : 0 < l.length := List.length_pos_iff.mpr h0
  obtain ⟨r, g', hr, hg', e⟩ := take_eq ((Γ__law_pick ct).sub [some (false, .box 0), some (false, d)]) l.length g hp hl hg
  refine ⟨l[r], g', List.getElem_mem hr, hg', ?_⟩
  unfold F__law_pick Def.run f__law_pick
  have hix : idxD d (.int r) = some l[r] := by
    unfold idxD
    rw [hd]
    exact L2.atI_nat (List.getElem?_eq_getElem hr)
  simp [startL, hd, e, hix]
@[simp] theorem fn_sh (ct : CloT) : (Γ__law_shuffled ct).fn "_law_take" = F__law_take := by kernel_rfl
theorem shuffled_eq (ct : CloT) (d : D) (p : List Nat) (g : G) (hd : d.items = some (iN p)) (hl : p.length < 16777216) (hg : Drw g) : ∃ (m : List Nat) (g' : G), m.Perm p ∧ Drw g' ∧ F__law_shuffled ct [.box 0, d] g = .ok true (.lst (iN m)) g' := by
  unfold F__law_shuffled Def.run f__law_shuffled
  have hz : sizeLine = 16777216 := sizeLine_eq
  simp [startL, hd, hz]
  refine whl_c (C := fun r => ∃ (m : List Nat), m.Perm p ∧ ∃ g', Drw g' ∧ ResS.fn r = Res.ok true (.lst (iN m)) g') (m := p.length) (fun n loc g => Drw g ∧ ∃ a b : List Nat, (a ++ b).Perm p ∧ n = a.length ∧ loc = [some (false, .box 0), some (false, d), some (true, .lst (iN a)), some (true, .lst (iN b))]) (fun loc g => Drw g ∧ ∃ b : List Nat, b.Perm p ∧ loc = [some (false, .box 0), some (false, d), some (true, .lst []), some (true, .lst (iN b))]) ?_ ?_ ?_ ?_
  · show p.length < 1000000000
    omega
  · exact ⟨hg, p, [], by simp, rfl, rfl⟩
  · rintro n loc g ⟨hg, a, b, hab, rfl, rfl⟩
    cases a with
    | nil =>
      left
      have e0 : eqD (.lst []) (.lst []) = some true := eqD_self rfl
      exact ⟨false, g, by simp [e0], hg, b, by simpa using hab, rfl⟩
    | cons c a =>
      right
      have e0 : eqD (.lst (iN (c :: a))) (.lst []) = some false := eqD_ne okD_iN.1 rfl (by simp)
      have hlen := hab.length_eq
      simp only [List.length_append, List.length_cons] at hlen
      obtain ⟨r, g', hr, hg', e⟩ := take_eq ((Γ__law_shuffled ct).sub [some (false, .box 0), some (false, d), some (true, .lst (iN (c :: a))), some (true, .lst (iN b))]) (c :: a).length g (by simp) (by simp; omega) hg
      have hpop : popD (iN (c :: a)) [.int (r : Int)] = some (.int ((c :: a)[r] : Nat), iN ((c :: a).eraseIdx r)) := by
        unfold popD
        simp only [iN_length, ixOf_nat hr]
        rw [iN_get, List.getElem?_eq_getElem hr]
        simp only [Option.map_some]
        congr 2
        exact iN_erase (c :: a) r
      refine ⟨false, g, [some (false, .box 0), some (false, d), some (true, .lst (iN ((c :: a).eraseIdx r))), some (true, .lst (iN (b ++ [(c :: a)[r]])))], g', _, by simp only [iN_cons] at e0; simp [e0], ?_, ⟨hg', (c :: a).eraseIdx r, b ++ [(c :: a)[r]], ?_, rfl, rfl⟩, ?_⟩
      · have hb : b.length < 16777216 := by omega
        simp only [iN_cons, List.length_cons] at e hpop
        push_cast at e
        simp [e, hpop, hz, hb]
      · have h1 := take_out hr
        refine List.Perm.trans ?_ hab
        refine (List.perm_append_comm).trans ?_
        rw [List.append_assoc]
        refine (List.Perm.append_left b (by simpa using h1)).trans List.perm_append_comm
      · rw [List.length_eraseIdx_of_lt hr]
        simp
  · rintro l' g' ⟨hg', b, hb, rfl⟩
    exact ⟨b, hb, g', hg', by simp⟩
end K03
end
section
set_option Elab.async false
set_option linter.all false
set_option maxRecDepth 100000
set_option maxHeartbeats 1000000
namespace K03
open PySem PyD
theorem begun_eq (ct : CloT) (ns : List Int) (h : ns.length ≤ 63) : ∃ g', Drw g' ∧ F__law_begun ct [.scr ns] ⟨[]⟩ = .ok false (.box 0) g' := by
  unfold F__law_begun Def.run f__law_begun
  have hz : sizeLine = 16777216 := sizeLine_eq
  have k1 : smallI 10 = true := by decide
  simp [startL]
  let p : D → Bool := fun d => match d with | .int i => decide ((10 : Int) ^ 18 ≤ i.natAbs) | _ => false
  let f : D → D := fun d => match d with | .int i => .int (i.natAbs - 10 ^ 18) | d => d
  let f2 : D → D := fun d => match d with | .int i => .int i.natAbs | d => d
  rw [compD_filter (p := p) (h := f) (fun x hx => ?_) (fun x hx _ => ?_)]
  · have hl : ((ns.map D.int).filter p).length < 16777216 := by
      have := List.length_filter_le p (ns.map D.int)
      rw [List.length_map] at this
      omega
    simp [hz, hl]
    rw [compD_map (h := f2) (fun x _ => ⟨_, rfl⟩) (fun x hx => ?_)]
    · have hl2 : (ns.map D.int).length < 16777216 := by rw [List.length_map]; omega
      have e1 : ∃ l, D.ints (((ns.map D.int).filter p).map f) = some l := by
        refine ⟨((ns.filter fun i => p (.int i)).map fun i => (i.natAbs : Int) - 10 ^ 18), ?_⟩
        rw [List.filter_map, List.map_map]
        have : (List.map (f ∘ D.int) (List.filter (p ∘ D.int) ns)) = ((ns.filter fun i => p (.int i)).map fun i => (i.natAbs : Int) - 10 ^ 18).map D.int := by rw [List.map_map]; rfl
        rw [this, ints_map]
      have e2 : D.ints ((ns.map D.int).map f2) = some (ns.map fun i => (i.natAbs : Int)) := by
        have : (ns.map D.int).map f2 = (ns.map fun i => (i.natAbs : Int)).map D.int := by rw [List.map_map, List.map_map]; rfl
        rw [this, ints_map]
      obtain ⟨l, e1⟩ := e1
      have hl3 : ns.length < 16777216 := by omega
      rw [List.map_map] at e2
      simp [e1, e2, hl3]
      exact ⟨_, _, _, _, rfl⟩
    · obtain ⟨i, _, rfl⟩ := List.mem_map.mp hx
      exact ⟨false, by simp [f2]⟩
  · obtain ⟨i, _, rfl⟩ := List.mem_map.mp hx
    exact ⟨false, by simp [p, k1]⟩
  · obtain ⟨i, _, rfl⟩ := List.mem_map.mp hx
    exact ⟨false, by simp [f, k1]⟩
theorem caught_ok (ct : CloT) {id : Nat} {cs : List Nat} {g g1 : G} {own : Bool} {d : D} (h : ct id cs [] g = .ok own d g1) : F__law_caught ct [.clo id cs] g = .ok false .non g1 := by
  unfold F__law_caught Def.run f__law_caught
  have e : (Γ__law_caught ct).sub [some (false, .clo id cs), some (false, .non), none] id cs [] g = .ok own d g1 := h
  simp [startL, e]
theorem caught_ex (ct : CloT) {id : Nat} {cs : List Nat} {g g1 : G} {c : Str} {fs : List (Str × D)} (h : ct id cs [] g = .ex c fs g1) (hc : errL.contains c = true) : F__law_caught ct [.clo id cs] g = .ok false (.exc c fs) g1 := by
  unfold F__law_caught Def.run f__law_caught
  have e : (Γ__law_caught ct).sub [some (false, .clo id cs), some (false, .non), none] id cs [] g = .ex c fs g1 := h
  have e2 : (Γ__law_caught ct).errs.contains c = true := hc
  have e3 : c ∈ (Γ__law_caught ct).errs := by simpa using e2
  simp [startL, e, e3]
theorem says_eq (ct : CloT) (d : D) (b : Bool) (g : G) : F__law_says ct [d, .bl b] g = .ok false (.bl (d.isBl b)) g := by
  unfold F__law_says Def.run f__law_says
  cases b <;> simp [startL]
theorem lnum_eq (ct : CloT) (d : D) (g : G) (h : (tyD d).isSome = true) : F__law_is_number ct [d] g = .ok false (.bl (isI d)) g := by
  rw [← isI_of h]
  unfold F__law_is_number Def.run f__law_is_number
  simp [startL, h]
  cases isTy "int" d <;> simp
theorem pairof_eq (ct : CloT) (p q : List Nat) (g : G) : F__law_pair_of ct [rowD p q] g = .ok false (.tup [.tup (iN p), .tup (iN q)]) g := by
  unfold F__law_pair_of Def.run f__law_pair_of
  have e1 := fi1 (p := p) (q := q) (ok := (Γ__law_pair_of ct).field) (ok2 := (Γ__law_pair_of ct).xfield) (by kernel_rfl)
  have e2 := fi2 (p := p) (q := q) (ok := (Γ__law_pair_of ct).field) (ok2 := (Γ__law_pair_of ct).xfield) (by kernel_rfl)
  simp [startL, e1, e2, sizeLine_eq]
theorem lshape_eq (ct : CloT) {n : Nat} {p q : List Nat} (g : G) (hp : Rw n p) (hq : Rw n q) (hn : n < 16777216) : F__law_shape ct [.tup (iN p), .tup (iN q)] g = .ok false (.tup (iN (shp p q))) g := by
  unfold F__law_shape Def.run f__law_shape
  have hl : sizeLine = 16777216 := sizeLine_eq
  let h : D → D := fun d => match d with | .int i => .int (p.idxOf i.toNat : Nat) | d => d
  simp [startL]
  rw [compD_map (h := h) (fun x _ => ⟨_, rfl⟩) (fun x hx => ?_)]
  · have hm : (iN q).map h = iN (shp p q) := map_iN _ h q fun k _ => by simp [h]
    simp [hm, hl, shp, hq.len, hn]
  · obtain ⟨k, hk, rfl⟩ := List.mem_map.mp hx
    have := index_iN (hp.mem.mpr (hq.mem.mp hk))
    exact ⟨false, by simp [mtD, this, h]⟩
theorem lishape_eq (ct : CloT) (d : D) (g : G) (h : (tyD d).isSome = true) (hl : ∀ l, d = .tup l → ∀ x ∈ l, (tyD x).isSome = true) : F__law_is_shape ct [d] g = .ok false (.bl (shapeB d)) g := by
  unfold F__law_is_shape Def.run f__law_is_shape
  have hz : sizeLine = 16777216 := sizeLine_eq
  by_cases ht : ∃ l, d = .tup l
  · obtain ⟨l, rfl⟩ := ht
    have e1 : isTy "tuple" (.tup l) = true := rfl
    have hn : ∀ ct, F__law_is_number ct = F__law_is_number ct := fun _ => rfl
    simp [startL, h, e1]
    by_cases h2 : (2 : Int) ≤ l.length
    · by_cases h8 : (l.length : Int) ≤ 8
      · have hh : 2 ≤ l.length ∧ l.length ≤ 8 := by omega
        let p : D → Bool := fun x => !isI x
        have fn1 : (Γ__law_is_shape ct).fn "_law_is_number" = F__law_is_number := by kernel_rfl
        have hf := List.length_filter_le p l
        have hlen : (List.filter p l).length < 16777216 := by omega
        have hlen2 : l.length ≤ 16777216 := by omega
        simp only [h2, h8, fn1, hz]
        simp
        rw [compD_filter (p := p) (h := fun _ => D.int 1) (fun x hx => ⟨false, by rw [lnum_eq _ _ _ (hl l rfl x hx)]; simp [p]⟩) (fun x _ _ => ⟨_, rfl⟩)]
        cases hfl : List.filter p l with
        | nil =>
          have hall : ∃ is : List Int, l = is.map D.int := by
            have hI : ∀ x ∈ l, isI x = true := fun x hx => by
              have := List.filter_eq_nil_iff.mp hfl x hx
              simpa [p] using this
            clear hfl hl hlen hlen2 hf hh h2 h8 h e1
            induction l with
            | nil => exact ⟨[], rfl⟩
            | cons x l ih =>
              obtain ⟨is, e⟩ := ih fun y hy => hI y (List.mem_cons_of_mem _ hy)
              have hx := hI x List.mem_cons_self
              cases x <;> simp only [isI] at hx <;> try (cases hx; done)
              rename_i i
              exact ⟨i :: is, by rw [e]; rfl⟩
          obtain ⟨is, rfl⟩ := hall
          have e0 : eqD (.lst []) (.lst []) = some true := eqD_self rfl
          have es : biD "sorted" [.tup (is.map D.int)] = some (true, .lst ((srtZ is).map D.int)) := bi_sortedZ rfl
          have er : rngD [.int ((is.map D.int).length : Int)] = some (iN (List.range (is.map D.int).length)) := rngD_nat (by omega)
          have ee : eqD (.lst ((srtZ is).map D.int)) (.lst (iN (List.range (is.map D.int).length))) = some (shapeB (.tup (is.map D.int))) := by
            rw [eqD_ok (okD_ints _) okD_iN.1]
            congr 1
            simp only [shapeB, hh, decide_true, Bool.true_and, eachB, and_self]
            simp only [decide_eq_decide]
            rw [← srtZ_range]
            exact ⟨fun h => by injection h, fun h => by rw [h]⟩
          simp only [List.length_map] at er ee hlen2
          simp [hz, e0, es, er, ee, hlen2]
        | cons x r =>
          have hx : x ∈ List.filter p l := by rw [hfl]; exact List.mem_cons_self
          obtain ⟨hxl, hxp⟩ := List.mem_filter.mp hx
          have e0 : eqD (.lst (D.int 1 :: r.map fun _ => D.int 1)) (.lst []) = some false := by
            refine eqD_ne ?_ rfl (by simp)
            have : (D.int 1 :: r.map fun _ => D.int 1) = ((1 : Int) :: r.map fun _ => (1 : Int)).map D.int := by simp
            rw [this]
            exact okD_ints _
          have hs : shapeB (.tup l) = false := by
            simp only [shapeB, Bool.and_eq_false_iff]
            right
            simp only [eachB, decide_eq_false_iff_not]
            rintro ⟨q, _, rfl⟩
            obtain ⟨k, _, rfl⟩ := List.mem_map.mp hxl
            simp [p, isI] at hxp
          rw [hfl] at hlen
          simp only [List.length_cons] at hlen
          simp [hz, e0, hs, hlen]
      · have : ¬ (2 ≤ l.length ∧ l.length ≤ 8) := by omega
        simp [h2, h8, shapeB, this]
    · have : ¬ (2 ≤ l.length ∧ l.length ≤ 8) := by omega
      simp [h2, shapeB, this]
  · have e1 : isTy "tuple" d = false := tup_isTy fun l e => ht ⟨l, e⟩
    have e2 : shapeB d = false := by
      cases d <;> first | rfl | exact absurd ⟨_, rfl⟩ ht
    simp [startL, h, e1, e2]
@[simp] theorem lkx1 : lk2 xbeL "BadRow" "BadRow" = some true := by kernel_rfl
@[simp] theorem lkx2 : lk2 xbeL "BadShape" "BadRow" = some false := by kernel_rfl
@[simp] theorem lkx3 : lk2 xbeL "BadLetters" "BadRow" = some false := by kernel_rfl
@[simp] theorem lkx4 : lk2 xbeL "BadShape" "BadShape" = some true := by kernel_rfl
@[simp] theorem lkx5 : lk2 xbeL "BadLetters" "BadShape" = some false := by kernel_rfl
@[simp] theorem lkx6 : lk2 xbeL "BadLetters" "BadLetters" = some true := by kernel_rfl
@[simp] theorem belx_w (ct : CloT) : (Γ__law_word ct).belowX = lk2 xbeL := rfl
theorem word_row (ct : CloT) (g : G) : F__law_word ct [.exc "BadRow" [("part", .non)]] g = .ok false (.str "row None") g := by
  unfold F__law_word Def.run f__law_word
  have hz : sizeLine = 16777216 := sizeLine_eq
  have e1 : semF (Γ__law_word ct).field (Γ__law_word ct).xfield "part" [.exc "BadRow" [("part", .non)]] = some (false, .non) := by kernel_rfl
  have e2 : biD "repr" [.non] = some (false, .str "None") := by kernel_rfl
  have e3 : binD .Add (.str "row ") (.str "None") = some (false, .str "row None") := by kernel_rfl
  simp [startL, iscD, e1, e2, e3, -b_adds]
theorem word_shape (ct : CloT) (g : G) : F__law_word ct [.exc "BadShape" []] g = .ok false (.str "shape") g := by
  unfold F__law_word Def.run f__law_word
  simp [startL, iscD]
theorem word_letters (ct : CloT) (g : G) : F__law_word ct [.exc "BadLetters" []] g = .ok false (.str "letters") g := by
  unfold F__law_word Def.run f__law_word
  simp [startL, iscD]
end K03
end
section
set_option Elab.async false
set_option linter.all false
set_option maxRecDepth 100000
set_option maxHeartbeats 1000000
namespace K03
open PySem PyD
@[simp] theorem fn_lp1 (ct : CloT) : (Γ__law_pair ct).fn "_law_take" = F__law_take := by kernel_rfl
@[simp] theorem fn_lp2 (ct : CloT) : (Γ__law_pair ct).fn "_law_pick" = F__law_pick := by kernel_rfl
@[simp] theorem fn_lp3 (ct : CloT) : (Γ__law_pair ct).fn "_law_shuffled" = F__law_shuffled := by kernel_rfl
theorem pair_eq (ct : CloT) (most : Nat) (g : G) (h2 : 2 ≤ most) (h8 : most ≤ 8) (hg : Drw g) : ∃ (n : Nat) (p q : List Nat) (g' : G), 2 ≤ n ∧ n ≤ most ∧ Rw n p ∧ Rw n q ∧ Drw g' ∧ F__law_pair ct [.box 0, .int most] g = .ok false (.tup [.tup (iN p), .tup (iN q)]) g' := by
  have hz : sizeLine = 16777216 := sizeLine_eq
  obtain ⟨r, g1, hr, hg1, e1⟩ := take_eq ((Γ__law_pair ct).sub [some (false, .box 0), some (false, .int most), none, none, none, none, none]) (most - 1) g (by omega) (by omega) hg
  have hn2 : 2 ≤ 2 + r := by omega
  have hn8 : 2 + r ≤ most := by omega
  generalize hnn : 2 + r = n at hn2 hn8
  have hcast : ((most : Int) - 1) = ((most - 1 : Nat) : Int) := by omega
  have hcast2 : (2 + (r : Int)) = (n : Int) := by omega
  obtain ⟨m, g2, hm, hg2, e2⟩ := shuffled_eq ((Γ__law_pair ct).sub [some (false, .box 0), some (false, .int most), some (false, .int n), none, none, none, none]) (.lst (iN (List.range n))) (List.range n) g1 rfl (by rw [List.length_range]; omega) hg1
  obtain ⟨x, g3, hx, hg3, e3⟩ := pick_eq ((Γ__law_pair ct).sub [some (false, .box 0), some (false, .int most), some (false, .int n), none, none, none, none]) (.lst [.lst (iN (List.range n)), .lst (iN m)]) _ g2 rfl (by simp) (by simp) hg2
  obtain ⟨p, hp, rfl⟩ : ∃ p, Rw n p ∧ x = .lst (iN p) := by
    rcases List.mem_cons.mp hx with rfl | hx
    · exact ⟨_, Rw.range n, rfl⟩
    · rw [List.mem_singleton.mp hx]
      exact ⟨m, hm, rfl⟩
  obtain ⟨way, g4, hway, hg4, e4⟩ := take_eq ((Γ__law_pair ct).sub [some (false, .box 0), some (false, .int most), some (false, .int n), some (false, .lst (iN p)), none, none, none]) 6 g3 (by omega) (by omega) hg3
  obtain ⟨m2, g5, hm2, hg5, e5⟩ := shuffled_eq ((Γ__law_pair ct).sub [some (false, .box 0), some (false, .int most), some (false, .int n), some (false, .lst (iN p)), some (false, .int way), none, none]) (.lst (iN p)) p g4 rfl (by rw [hp.len]; omega) hg4
  have hrng := rngD_nat (n := n) (by omega)
  have hn16 : n ≤ 16777216 := by omega
  rw [show ((6 : Nat) : Int) = 6 from rfl] at e4
  have hd1 : sliceL (iN p) (some (1 : Int)) none = iN (p.drop 1) := by
    rw [← iN_drop]; exact sl_lo (k := 1) _ (by rw [iN_length, hp.len]; omega)
  have ht1 : sliceL (iN p) none (some (1 : Int)) = iN (p.take 1) := by
    rw [← iN_take]; exact sl_hi (k := 1) _ (by rw [iN_length, hp.len]; omega)
  suffices h : ∃ (q : List Nat) (g' : G), Rw n q ∧ Drw g' ∧ F__law_pair ct [.box 0, .int most] g = .ok false (.tup [.tup (iN p), .tup (iN q)]) g' by
    obtain ⟨q, g', h1, h2, h3⟩ := h
    exact ⟨n, p, q, g', hn2, hn8, hp, h1, h2, h3⟩
  have hlen := hp.len
  have hln : p.length - 1 + 1 ≤ 16777216 := by omega
  unfold F__law_pair Def.run f__law_pair
  simp only [startL]
  by_cases w0 : way = 0
  · subst w0
    refine ⟨p.reverse, g4, hp.rev, hg4, ?_⟩
    simp [hcast, e1, hcast2, hrng, hz, hn16, e2, e3, e4]
  · have w0' : ¬ ((way : Int) = 0) := by omega
    by_cases w1 : way = 1
    · subst w1
      rw [show ((1 : Nat) : Int) = 1 from rfl] at e5
      refine ⟨p.drop 1 ++ p.take 1, g5, ?_, hg5, ?_⟩
      · refine List.Perm.trans ?_ hp
        refine List.perm_append_comm.trans ?_
        rw [List.take_append_drop]
      · have hl2 : (p.drop 1).length + (p.take 1).length ≤ 16777216 := by
          rw [List.length_drop, List.length_take]; omega
        simp only [List.length_drop, List.length_take] at hl2
        simp [hcast, e1, hcast2, hrng, hz, hn16, e2, e3, e4, e5, hd1, ht1, hl2]
    · have w1' : ¬ ((way : Int) = 1) := by omega
      by_cases w2 : way = 2
      · subst w2
        rw [show ((2 : Nat) : Int) = 2 from rfl] at e5
        have hc4 : ((n : Int) - 1) = ((n - 1 : Nat) : Int) := by omega
        obtain ⟨s, g6, hs, hg6, e6⟩ := take_eq ((Γ__law_pair ct).sub [some (false, .box 0), some (false, .int most), some (false, .int n), some (false, .lst (iN p)), some (false, .int 2), some (true, .lst (iN m2)), none]) (n - 1) g5 (by omega) (by omega) hg5
        have h1 : s < p.length := by omega
        have h2 : s + 1 < p.length := by omega
        refine ⟨(p.set s p[s + 1]).set (s + 1) p[s], g6, (List.set_set_perm h1 h2).trans hp, hg6, ?_⟩
        have i1 : idxD (.lst (iN p)) (.int (s : Int)) = some (.int (p[s] : Nat)) := idx_iN rfl (List.getElem?_eq_getElem h1)
        have i2 : idxD (.lst (iN p)) (.int ((s : Int) + 1)) = some (.int (p[s + 1] : Nat)) := idx_iN (i := s + 1) rfl (List.getElem?_eq_getElem h2)
        have i3 : ixOf p.length ((s : Int) + 1) = some (s + 1) := ixOf_nat (n := p.length) (i := s + 1) h2
        simp [hcast, e1, hcast2, hrng, hz, hn16, e2, e3, e4, e5, hc4, e6, i1, i2, i3, ixOf_nat h1, iN_set]
      · have w2' : ¬ ((way : Int) = 2) := by omega
        refine ⟨m2, g5, hm2.trans hp, hg5, ?_⟩
        simp [hcast, e1, hcast2, hrng, hz, hn16, e2, e3, e4, e5, w0, w1, w2, w0', w1', w2']
        try (have q1 : ¬ ((way : Int) = 1) := w1'; have q2 : ¬ ((way : Int) = 2) := w2'; simp [q1, q2])
end K03
end
section
set_option Elab.async false
set_option linter.all false
set_option maxRecDepth 100000
set_option maxHeartbeats 1000000
namespace K03
open PySem PyD
theorem idx_get {p : List Nat} {k : Nat} (h : k ∈ p) : ∃ (hi : p.idxOf k < p.length), p[p.idxOf k] = k := ⟨List.idxOf_lt_length_iff.mpr h, List.getElem_idxOf _⟩
theorem idx_inj {p : List Nat} {a b : Nat} (ha : a ∈ p) (hb : b ∈ p) (h : p.idxOf a = p.idxOf b) : a = b := by
  obtain ⟨h1, e1⟩ := idx_get ha
  obtain ⟨h2, e2⟩ := idx_get hb
  rw [← e1, ← e2]
  simp only [h]
theorem shp_rw {n : Nat} {p q : List Nat} (hp : Rw n p) (hq : Rw n q) : Rw n (shp p q) := by
  refine Rw.of ?_ (by simp [shp, hq.len]) fun x hx => ?_
  · refine List.pairwise_map.mpr (hq.nd.imp_of_mem ?_)
    intro a b ha hb hab e
    exact hab (idx_inj (hp.mem.mpr (hq.mem.mp ha)) (hp.mem.mpr (hq.mem.mp hb)) e)
  · obtain ⟨k, hk, rfl⟩ := List.mem_map.mp hx
    have := List.idxOf_lt_length_iff.mpr (hp.mem.mpr (hq.mem.mp hk))
    rw [hp.len] at this
    exact this
theorem idx_range {n k : Nat} (h : k < n) : (List.range n).idxOf k = k := by
  have h1 : k < (List.range n).length := by rw [List.length_range]; exact h
  have := List.Nodup.idxOf_getElem (xs := List.range n) List.nodup_range k h1
  rwa [List.getElem_range] at this
theorem shp_range {n : Nat} {s : List Nat} (hs : Rw n s) : shp (List.range n) s = s := by
  unfold shp
  refine (List.map_congr_left fun k hk => ?_).trans (List.map_id s)
  exact idx_range (hs.mem.mp hk)
theorem idx_map {f : Nat → Nat} {p : List Nat} {k : Nat} (hn : (p.map f).Nodup) (hk : k ∈ p) : (p.map f).idxOf (f k) = p.idxOf k := by
  obtain ⟨hi, e⟩ := idx_get hk
  have h1 : p.idxOf k < (p.map f).length := by rw [List.length_map]; exact hi
  have := List.Nodup.idxOf_getElem hn (p.idxOf k) h1
  rw [List.getElem_map] at this
  rw [e] at this
  exact this
theorem shp_nmd {n : Nat} {p q N : List Nat} (hp : Rw n p) (hq : Rw n q) (hN : Rw n N) : shp (nmd N p) (nmd N q) = shp p q := by
  unfold shp
  show ((q.map fun k => N.getD k 0).map fun k => (nmd N p).idxOf k) = _
  rw [List.map_map]
  refine List.map_congr_left fun k hk => ?_
  exact idx_map (f := fun k => N.getD k 0) (nmd_rw hN hp).nd (hp.mem.mpr (hq.mem.mp hk))
theorem mem_take {p : List Nat} {x m : Nat} (hx : x ∈ p) : x ∈ p.take m ↔ p.idxOf x < m := by
  obtain ⟨hi, e⟩ := idx_get hx
  constructor
  · intro h
    have h1 := List.idxOf_lt_length_iff.mpr h
    have h2 : p.idxOf x = (p.take m).idxOf x := by
      conv => lhs; rw [← List.take_append_drop m p]
      rw [List.idxOf_append, if_pos h]
    rw [h2]
    rw [List.length_take] at h1
    omega
  · intro h
    rw [List.mem_take_iff_getElem]
    exact ⟨p.idxOf x, by omega, e⟩
theorem cut_iff {n m : Nat} {p q : List Nat} (hp : Rw n p) (hq : Rw n q) : cutB p q m = true ↔ ∀ x ∈ q.take m, x ∈ p.take m := by
  simp only [cutB, List.all_eq_true, decide_eq_true_eq]
  constructor
  · intro h x hx
    exact (mem_take (hp.mem.mpr (hq.mem.mp (List.mem_of_mem_take hx)))).mpr (h x hx)
  · intro h x hx
    exact (mem_take (hp.mem.mpr (hq.mem.mp (List.mem_of_mem_take hx)))).mp (h x hx)
theorem parts_nil {n : Nat} {p q : List Nat} : parts n p q = [] ↔ ∀ m, 1 ≤ m → m < n → cutB p q m = false := by
  unfold parts
  rw [List.filter_eq_nil_iff]
  constructor
  · intro h m h1 h2
    have := h m (by rw [List.mem_range'_1]; omega)
    simpa using this
  · intro h m hm
    rw [List.mem_range'_1] at hm
    simp [h m (by omega) (by omega)]
theorem cut_swap {n m : Nat} {p q : List Nat} (hp : Rw n p) (hq : Rw n q) (h : cutB p q m = true) : cutB q p m = true := by
  rw [cut_iff hp hq] at h
  rw [cut_iff hq hp]
  exact nodup_eq ((List.take_sublist m q).nodup hq.nd) h (by rw [List.length_take, List.length_take, hp.len, hq.len]; exact Nat.le_refl _)
theorem whole_over {n : Nat} {p q : List Nat} (hp : Rw n p) (hq : Rw n q) : parts n q p = [] ↔ parts n p q = [] := by
  rw [parts_nil, parts_nil]
  constructor
  · intro h m h1 h2
    cases c : cutB p q m with
    | false => rfl
    | true => have := cut_swap hp hq c; rw [h m h1 h2] at this; cases this
  · intro h m h1 h2
    cases c : cutB q p m with
    | false => rfl
    | true => have := cut_swap hq hp c; rw [h m h1 h2] at this; cases this
theorem take_not_drop {q : List Nat} (hn : q.Nodup) {m x : Nat} (h1 : x ∈ q.take m) (h2 : x ∈ q.drop m) : False := by
  have : (q.take m ++ q.drop m).Nodup := by rw [List.take_append_drop]; exact hn
  exact (List.nodup_append.mp this).2.2 x h1 x h2 rfl
theorem cut_rev {n m : Nat} {p q : List Nat} (hp : Rw n p) (hq : Rw n q) (hm : m ≤ n) (h : cutB p.reverse q.reverse m = true) : cutB p q (n - m) = true := by
  rw [cut_iff hp.rev hq.rev] at h
  rw [cut_iff hp hq]
  have hd : ∀ x ∈ q.drop (n - m), x ∈ p.drop (n - m) := fun x hx => by
    have h1 : x ∈ q.reverse.take m := by
      rw [List.take_reverse, hq.len]
      exact List.mem_reverse.mpr hx
    have h2 := h x h1
    rw [List.take_reverse, hp.len] at h2
    exact List.mem_reverse.mp h2
  have hd2 := nodup_eq (m := p.drop (n - m)) ((List.drop_sublist (n - m) q).nodup hq.nd) hd (by rw [List.length_drop, List.length_drop, hp.len, hq.len]; exact Nat.le_refl _)
  intro x hx
  have hxp : x ∈ p.take (n - m) ++ p.drop (n - m) := by rw [List.take_append_drop]; exact hp.mem.mpr (hq.mem.mp (List.mem_of_mem_take hx))
  rcases List.mem_append.mp hxp with h3 | h3
  · exact h3
  · exact (take_not_drop hq.nd hx (hd2 x h3)).elim
theorem whole_about {n : Nat} {p q : List Nat} (hp : Rw n p) (hq : Rw n q) : parts n p.reverse q.reverse = [] ↔ parts n p q = [] := by
  rw [parts_nil, parts_nil]
  constructor
  · intro h m h1 h2
    cases c : cutB p q m with
    | false => rfl
    | true =>
      have c2 : cutB p.reverse.reverse q.reverse.reverse m = true := by rw [List.reverse_reverse, List.reverse_reverse]; exact c
      have := cut_rev hp.rev hq.rev (by omega) c2
      rw [h (n - m) (by omega) (by omega)] at this
      cases this
  · intro h m h1 h2
    cases c : cutB p.reverse q.reverse m with
    | false => rfl
    | true =>
      have := cut_rev hp hq (by omega) c
      rw [h (n - m) (by omega) (by omega)] at this
      cases this
end K03
end
section
set_option Elab.async false
set_option linter.all false
set_option maxRecDepth 100000
set_option maxHeartbeats 2000000
namespace K03
open PySem PyD
@[simp] theorem lr_1 (ct : CloT) : (Γ__law_right ct).mkc "Row" = mkR "Row" F_RowD_initD := by kernel_rfl
@[simp] theorem lr_2 (ct : CloT) : (Γ__law_right ct).fn "_law_shape" = F__law_shape := by kernel_rfl
@[simp] theorem lr_3 (ct : CloT) : (Γ__law_right ct).fn "shape_of" = F_shape_of := by kernel_rfl
@[simp] theorem lr_4 (ct : CloT) : (Γ__law_right ct).fn "row_of_shape" = F_row_of_shape := by kernel_rfl
@[simp] theorem lr_5 (ct : CloT) : (Γ__law_right ct).fn "_law_pair_of" = F__law_pair_of := by kernel_rfl
@[simp] theorem lr_6 (ct : CloT) : (Γ__law_right ct).fn "_law_shuffled" = F__law_shuffled := by kernel_rfl
@[simp] theorem lr_7 (ct : CloT) : (Γ__law_right ct).fn "renamed" = F_renamed := by kernel_rfl
@[simp] theorem lr_8 (ct : CloT) : (Γ__law_right ct).fn "turned_over" = F_turned_over := by kernel_rfl
@[simp] theorem lr_9 (ct : CloT) : (Γ__law_right ct).fn "turned_about" = F_turned_about := by kernel_rfl
@[simp] theorem lr_a (ct : CloT) : (Γ__law_right ct).fn "is_whole" = F_is_whole := by kernel_rfl
@[simp] theorem pm_0 {a : D} : permL [0] [a] = [a] := rfl
@[simp] theorem pm_10 {a b : D} : permL [1, 0] [a, b] = [b, a] := rfl
theorem lp_nil {bind : D → PyD.Loc → Option PyD.Loc} {body : PyD.Loc → G → ResS} {loc : PyD.Loc} {g : G} : loopD bind body [] loc g = .nx loc g := rfl
theorem lp_cons {bind : D → PyD.Loc → Option PyD.Loc} {body : PyD.Loc → G → ResS} {x : D} {r : List D} {loc : PyD.Loc} {g : G} : loopD bind body (x :: r) loc g = match bind x loc with
    | some l => (match body l g with
      | .nx l' g' => loopD bind body r l' g'
      | .bk l' g' => .nx l' g'
      | y => y)
    | none => .bad := rfl
theorem shuffled_gen {ct : CloT} {d : D} {p : List Nat} {g : G} {X : Res} (h : F__law_shuffled ct [.box 0, d] g = X) (hd : d.items = some (iN p)) (hl : p.length < 16777216) (hg : Drw g) : ∃ (m : List Nat) (g' : G), m.Perm p ∧ Drw g' ∧ X = .ok true (.lst (iN m)) g' := by
  obtain ⟨m, g', h1, h2, h3⟩ := shuffled_eq ct d p g hd hl hg
  exact ⟨m, g', h1, h2, by rw [← h, h3]⟩
theorem eqi_row {Γ : Env'} {neg : Bool} {loc : PyD.Loc} {p q p2 q2 : List Nat} {g : G} (h1 : Γ.eqs.contains "Row" = true) (h2 : Γ.fn (("Row" : Str) ++ (".__eq__" : Str)) = F_RowD_eqD) : eqiK Γ neg loc (rowD p q) (rowD p2 q2) g = .ok false (.bl (if neg then !(decide (p = p2) && decide (q = q2)) else (decide (p = p2) && decide (q = q2)))) g := by
  have e := roweq_eq (Γ.sub loc) p q p2 q2 g
  unfold rowD at e ⊢
  dsimp only [eqiK]
  rw [if_pos (by rw [h1]; simp)]
  rw [h2, e]
  rfl
/-- the names of a row's letters, by a comprehension -/
def hNm (N : List Nat) : D → D := fun x => match x with | .int i => .int (N.getD i.toNat 0 : Nat) | x => x
theorem hNm_map (N r : List Nat) : (iN r).map (hNm N) = iN (nmd N r) := map_iN _ (hNm N) r fun k _ => by simp [hNm]
theorem hNm_ix {n : Nat} {N : List Nat} {d : D} {x : Nat} (hd : d.items = some (iN N)) (hN : Rw n N) (hx : x < n) : idxD d (.int (x : Int)) = some (.int ((N[x]?.getD 0 : Nat) : Int)) := by
  have lx : x < N.length := by rw [hN.len]; exact hx
  refine idx_iN hd ?_
  rw [List.getElem?_eq_getElem lx, Option.getD_some]
@[simp] theorem lr_v1 (ct : CloT) : (("turned_over" : Str) ∈ (Γ__law_right ct).vals) = True := by
  have : (Γ__law_right ct).vals.contains "turned_over" = true := by kernel_rfl
  simpa using this
@[simp] theorem lr_v2 (ct : CloT) : (("turned_about" : Str) ∈ (Γ__law_right ct).vals) = True := by
  have : (Γ__law_right ct).vals.contains "turned_about" = true := by kernel_rfl
  simpa using this
@[simp] theorem lr_p1 (ct : CloT) : (Γ__law_right ct).par "turned_over" = ([("row" : Str)] : List Str) := by kernel_rfl
@[simp] theorem lr_p2 (ct : CloT) : (Γ__law_right ct).par "turned_about" = ([("row" : Str)] : List Str) := by kernel_rfl
theorem kw_1 : kwB (["row"] : List Str) 1 [] = true := by kernel_rfl
theorem kw_2 : kwB (["row"] : List Str) 1 ["row"] = true := by kernel_rfl
theorem pk_1 : permK (["row"] : List Str) 1 [] = [] := by kernel_rfl
theorem pk_2 : permK (["row"] : List Str) 1 ["row"] = [0] := by kernel_rfl
theorem right_eq (ct : CloT) {n : Nat} {p q : List Nat} (g : G) (hp : Rw n p) (hq : Rw n q) (h2 : 2 ≤ n) (h8 : n ≤ 8) (hg : Drw g) : ∃ g', Drw g' ∧ F__law_right ct [.box 0, .tup (iN p), .tup (iN q)] g = .ok false (.bl true) g' := by
  have hz : sizeLine = 16777216 := sizeLine_eq
  have hn16 : n < 16777216 := by omega
  have hs := shp_rw hp hq
  have lt10 : ∀ {l : List Nat}, Rw n l → ∀ k ∈ l, k < 10 := fun hl k hk => by have := hl.mem.mp hk; omega
  have len8 : ∀ {l : List Nat}, Rw n l → l.length ≤ 8 := fun hl => by rw [hl.len]; exact h8
  obtain ⟨_, r1, er1, er2⟩ := repr_two (lt10 hs) (lt10 hs) (len8 hs) (len8 hs)
  unfold F__law_right Def.run f__law_right
  have e1 := fun ct g (h : boxFlat g.bx = true) => row_mk ct (a := .tup (iN p)) (b := .tup (iN q)) g rfl rfl hp hq h2 h8 h
  have e2 := fun ct g => lshape_eq ct g hp hq hn16
  have e3 := fun ct g => shape_eq ct g hp hq hn16
  have e4 := fun ct g (h : boxFlat g.bx = true) => rowof_eq ct g hs h2 h8 h
  have e5 := fun ct g => shape_eq ct g (Rw.range n) hs hn16
  rw [shp_range hs] at e5
  have hrng := rngD_nat (n := n) (by omega)
  have hf := hg.flat
  have hn' : n ≤ 16777216 := by omega
  have e6 : eqD (.tup [.tup (iN (List.range n)), .tup (iN (shp p q))]) (.tup [.tup (iN (List.range n)), .tup (iN (shp p q))]) = some true := eqD_self (by simp [okD, nb, nbs, dpD, dpDs])
  simp only [startL]
  simp [e1, hf, e2, hp.len, e3, er1, er2, hz, e4, x_loop, lp_cons, lp_nil, pairof_eq, hrng, hn', e6, e5]
  generalize hX : F__law_shuffled _ _ _ = X
  obtain ⟨N, g1, hN, hg1, rfl⟩ := shuffled_gen hX rfl (by rw [List.length_range]; exact hn16) hg
  clear hX
  have hN' : Rw n N := hN
  have hf1 := hg1.flat
  have nl1 : (nmd N p).length < 16777216 := by rw [(nmd_rw hN' hp).len]; exact hn16
  have nl2 : (nmd N q).length < 16777216 := by rw [(nmd_rw hN' hq).len]; exact hn16
  simp [hz]
  rw [compD_map (h := hNm N) (fun x _ => ⟨_, rfl⟩) (fun x hx => by
    obtain ⟨k, hk, rfl⟩ := List.mem_map.mp hx
    exact ⟨false, by simp [hNm_ix (d := .lst (iN N)) rfl hN' (hp.mem.mp hk), hNm]⟩)]
  simp only [hNm_map]
  simp [hz, nl1]
  rw [compD_map (h := hNm N) (fun x _ => ⟨_, rfl⟩) (fun x hx => by
    obtain ⟨k, hk, rfl⟩ := List.mem_map.mp hx
    exact ⟨false, by simp [hNm_ix (d := .lst (iN N)) rfl hN' (hq.mem.mp hk), hNm]⟩)]
  simp only [hNm_map]
  simp [hz, nl2]
  have hNp := nmd_rw hN' hp
  have hNq := nmd_rw hN' hq
  have e7 := fun ct g (h : boxFlat g.bx = true) => renamed_eq ct (d := .lst (iN N)) g rfl hp hq hN' h2 h8 h
  have e8 := fun ct g (h : boxFlat g.bx = true) => renamed_eq ct (d := .tup (iN N)) g rfl hp hq hN' h2 h8 h
  obtain ⟨⟨r2, er3, er4⟩, _⟩ := repr_two (lt10 hNp) (lt10 hNq) (len8 hNp) (len8 hNq)
  have e10 := fun ct g => shape_eq ct g hNp hNq hn16
  rw [shp_nmd hp hq hN'] at e10
  have e11 := fun ct g (h : boxFlat g.bx = true) => over_eq ct g hp hq h2 h8 h
  have e12 := fun ct g (h : boxFlat g.bx = true) => over_eq ct g hq hp h2 h8 h
  have e13 := fun ct g (h : boxFlat g.bx = true) => about_eq ct g hp hq h2 h8 h
  have e14 := fun ct g (h : boxFlat g.bx = true) => about_eq ct g hp.rev hq.rev h2 h8 h
  simp only [List.reverse_reverse] at e14
  have e15 := fun ct g (h : boxFlat g.bx = true) => over_eq ct g hp.rev hq.rev h2 h8 h
  have e16 := fun ct g (h : boxFlat g.bx = true) => about_eq ct g hq hp h2 h8 h
  obtain ⟨⟨r3, er5, er6⟩, _⟩ := repr_two (lt10 hq) (lt10 hp) (len8 hq) (len8 hp)
  obtain ⟨⟨r4, er7, er8⟩, _⟩ := repr_two (lt10 hp.rev) (lt10 hq.rev) (len8 hp.rev) (len8 hq.rev)
  have w1 := fun ct g => whole_eq ct g hp hq (by omega) hn16
  have w2 := fun ct g => whole_eq ct g hq hp (by omega) hn16
  have w3 := fun ct g => whole_eq ct g hp.rev hq.rev (by omega) hn16
  have w4 : decide (parts n q p = []) = decide (parts n p q = []) := by rw [decide_eq_decide]; exact whole_over hp hq
  have w5 : decide (parts n p.reverse q.reverse = []) = decide (parts n p q = []) := by rw [decide_eq_decide]; exact whole_about hp hq
  rw [w4] at w2
  rw [w5] at w3
  have q1 : ∀ ct, (Γ__law_right ct).eqs.contains "Row" = true := fun ct => by kernel_rfl
  have q2 : ∀ ct, (Γ__law_right ct).fn (("Row" : Str) ++ (".__eq__" : Str)) = F_RowD_eqD := fun ct => by kernel_rfl
  have q3 := fun neg loc a b c d g => eqi_row (Γ := Γ__law_right ct) (neg := neg) (loc := loc) (p := a) (q := b) (p2 := c) (q2 := d) (g := g) (q1 ct) (q2 ct)
  simp [hz, e7, e8, hf1, er3, er4, e10, lp_cons, lp_nil, pairof_eq, x_loop, e11, e12, e13, e14, e15, e16, er5, er6, er7, er8, w1, w2, w3, q3, kw_1, kw_2, pk_1, pk_2]
  exact hg1
end K03
end
section
set_option Elab.async false
set_option linter.all false
set_option maxRecDepth 100000
set_option maxHeartbeats 2000000
namespace K03
open PySem PyD
@[simp] theorem ll_1 (ct : CloT) : (Γ__law_like_right ct).mkc "Row" = mkR "Row" F_RowD_initD := by kernel_rfl
@[simp] theorem ll_2 (ct : CloT) : (Γ__law_like_right ct).fn "_law_pair" = F__law_pair := by kernel_rfl
@[simp] theorem ll_3 (ct : CloT) : (Γ__law_like_right ct).fn "_law_shuffled" = F__law_shuffled := by kernel_rfl
@[simp] theorem ll_4 (ct : CloT) : (Γ__law_like_right ct).fn "_law_pick" = F__law_pick := by kernel_rfl
@[simp] theorem ll_5 (ct : CloT) : (Γ__law_like_right ct).fn "shape_of" = F_shape_of := by kernel_rfl
@[simp] theorem ll_6 (ct : CloT) : (Γ__law_like_right ct).fn "renamed" = F_renamed := by kernel_rfl
theorem pair_gen {ct : CloT} {most : Nat} {g : G} {X : Res} (h : F__law_pair ct [.box 0, .int most] g = X) (h2 : 2 ≤ most) (h8 : most ≤ 8) (hg : Drw g) : ∃ (n : Nat) (p q : List Nat) (g' : G), 2 ≤ n ∧ n ≤ most ∧ Rw n p ∧ Rw n q ∧ Drw g' ∧ X = .ok false (.tup [.tup (iN p), .tup (iN q)]) g' := by
  obtain ⟨n, p, q, g', h1, h2, h3, h4, h5, h6⟩ := pair_eq ct most g h2 h8 hg
  exact ⟨n, p, q, g', h1, h2, h3, h4, h5, by rw [← h, h6]⟩
theorem pick_gen {ct : CloT} {d : D} {l : List D} {g : G} {X : Res} (h : F__law_pick ct [.box 0, d] g = X) (hd : d.items = some l) (h0 : l ≠ []) (hl : l.length < 2 ^ 30) (hg : Drw g) : ∃ (x : D) (g' : G), x ∈ l ∧ Drw g' ∧ X = .ok false x g' := by
  obtain ⟨x, g', h1, h2, h3⟩ := pick_eq ct d l g hd h0 hl hg
  exact ⟨x, g', h1, h2, by rw [← h, h3]⟩
/-- the names that lead the one row to the other -/
def ledN (n : Nat) (p p2 : List Nat) : List Nat := (List.range n).map fun x => p2.getD (p.idxOf x) 0
theorem led_get {n : Nat} {p p2 : List Nat} {x : Nat} (h : x < n) : (ledN n p p2).getD x 0 = p2.getD (p.idxOf x) 0 := by
  simp [ledN, h]
theorem led_p {n : Nat} {p p2 : List Nat} (hp : Rw n p) (hp2 : Rw n p2) : nmd (ledN n p p2) p = p2 := by
  refine List.ext_getElem (by simp [nmd, hp.len, hp2.len]) fun i h1 h2 => ?_
  have hi : i < p.length := by simpa [nmd] using h1
  have hpi : p[i] < n := hp.mem.mp (List.getElem_mem hi)
  simp only [nmd, List.getElem_map]
  rw [led_get hpi, List.Nodup.idxOf_getElem hp.nd i hi, List.getD_eq_getElem?_getD, List.getElem?_eq_getElem h2]
  rfl
theorem led_rw {n : Nat} {p p2 : List Nat} (hp : Rw n p) (hp2 : Rw n p2) : Rw n (ledN n p p2) := by
  refine Rw.of ?_ (by simp [ledN]) fun x hx => ?_
  · refine List.pairwise_map.mpr (List.nodup_range.imp_of_mem ?_)
    intro a b ha hb hab e
    have ha' := hp.mem.mpr (List.mem_range.mp ha)
    have hb' := hp.mem.mpr (List.mem_range.mp hb)
    obtain ⟨i1, e1⟩ := idx_get ha'
    obtain ⟨i2, e2⟩ := idx_get hb'
    have l1 : p.idxOf a < p2.length := by rw [hp2.len, ← hp.len]; exact i1
    have l2 : p.idxOf b < p2.length := by rw [hp2.len, ← hp.len]; exact i2
    simp only [List.getD_eq_getElem?_getD, List.getElem?_eq_getElem l1, List.getElem?_eq_getElem l2, Option.getD_some] at e
    have := (List.getElem_inj hp2.nd).mp e
    exact hab (idx_inj ha' hb' this)
  · obtain ⟨a, ha, rfl⟩ := List.mem_map.mp hx
    obtain ⟨i1, _⟩ := idx_get (hp.mem.mpr (List.mem_range.mp ha))
    have l1 : p.idxOf a < p2.length := by rw [hp2.len, ← hp.len]; exact i1
    rw [List.getD_eq_getElem?_getD, List.getElem?_eq_getElem l1, Option.getD_some]
    exact hp2.mem.mp (List.getElem_mem l1)
/-- one shape exactly if led -/
theorem like_iff {n : Nat} {p q p2 q2 : List Nat} (hp : Rw n p) (hq : Rw n q) (hp2 : Rw n p2) (hq2 : Rw n q2) : nmd (ledN n p p2) q = q2 ↔ shp p q = shp p2 q2 := by
  constructor
  · intro h
    have e := shp_nmd hp hq (led_rw hp hp2)
    rw [led_p hp hp2] at e
    rw [← h]
    exact e.symm
  · intro h
    have hl : q.length = q2.length := by rw [hq.len, hq2.len]
    refine List.ext_getElem (by simp [nmd, hl]) fun i h1 h2 => ?_
    have hi : i < q.length := by simpa [nmd] using h1
    have hqi : q[i] < n := hq.mem.mp (List.getElem_mem hi)
    have e : p.idxOf q[i] = p2.idxOf q2[i] := by
      have := congrArg (fun z => z[i]?) h
      simpa [shp, List.getElem?_map, List.getElem?_eq_getElem hi, List.getElem?_eq_getElem h2] using this
    simp only [nmd, List.getElem_map]
    rw [led_get hqi, e]
    obtain ⟨i2, e2⟩ := idx_get (hp2.mem.mpr (hq2.mem.mp (List.getElem_mem h2)))
    rw [List.getD_eq_getElem?_getD, List.getElem?_eq_getElem i2, Option.getD_some, e2]
def zipN (p q : List Nat) : List D := ((iN p).zip (iN q)).map fun t => .tup [t.1, t.2]
theorem zip_step {p q : List Nat} {i : Nat} {x : D} {r : List D} (h : x :: r = (zipN p q).drop i) : ∃ a b, p[i]? = some a ∧ q[i]? = some b ∧ x = .tup [.int a, .int b] ∧ r = (zipN p q).drop (i + 1) := by
  have h0 : (zipN p q)[i]? = some x := by
    have := congrArg (fun z => z[0]?) h
    simpa [List.getElem?_drop] using this.symm
  have hr : (zipN p q).drop (i + 1) = r := by
    rw [← List.drop_drop, ← h]
    rfl
  simp only [zipN, List.getElem?_map, Option.map_eq_some_iff] at h0
  obtain ⟨⟨y, z⟩, h1, rfl⟩ := h0
  rw [List.getElem?_zip_eq_some] at h1
  obtain ⟨h1, h2⟩ := h1
  rw [iN_get, Option.map_eq_some_iff] at h1 h2
  obtain ⟨a, ha, rfl⟩ := h1
  obtain ⟨b, hb, rfl⟩ := h2
  exact ⟨a, b, ha, hb, rfl, hr.symm⟩
theorem zip_end {p q : List Nat} {i : Nat} (h : [] = (zipN p q).drop i) (hl : p.length = q.length) : p.length ≤ i := by
  have := List.drop_eq_nil_iff.mp h.symm
  simpa [zipN, hl] using this
theorem like_eq (ct : CloT) {n : Nat} {p q : List Nat} (g : G) (hp : Rw n p) (hq : Rw n q) (h2 : 2 ≤ n) (h8 : n ≤ 8) (hg : Drw g) : ∃ g', Drw g' ∧ F__law_like_right ct [.box 0, .tup (iN p), .tup (iN q)] g = .ok false (.bl true) g' := by
  have hz : sizeLine = 16777216 := sizeLine_eq
  have hn16 : n < 16777216 := by omega
  have hn' : n ≤ 16777216 := by omega
  have e1 := fun ct g (h : boxFlat g.bx = true) => row_mk ct (a := .tup (iN p)) (b := .tup (iN q)) g rfl rfl hp hq h2 h8 h
  have hrng := rngD_nat (n := n) (by omega)
  have hf := hg.flat
  unfold F__law_like_right Def.run f__law_like_right
  simp only [startL]
  simp [e1, hf, hp.len, hz, hrng, hn']
  generalize hX : F__law_pair _ _ _ = X
  obtain ⟨n2, p2, q2, g1, a2, a8, hp2, hq2, hg1, rfl⟩ := pair_gen hX h2 h8 hg
  clear hX
  simp [hz, hrng, hn', hp.len]
  generalize hX : F__law_shuffled _ _ _ = X
  obtain ⟨N, g2, hN, hg2, rfl⟩ := shuffled_gen hX rfl (by rw [List.length_range]; exact hn16) hg1
  clear hX
  have hN' : Rw n N := hN
  have hf2 := hg2.flat
  have nl1 : (nmd N p).length < 16777216 := by rw [(nmd_rw hN' hp).len]; exact hn16
  have nl2 : (nmd N q).length < 16777216 := by rw [(nmd_rw hN' hq).len]; exact hn16
  simp [hz]
  rw [compD_map (h := hNm N) (fun x _ => ⟨_, rfl⟩) (fun x hx => by
    obtain ⟨k, hk, rfl⟩ := List.mem_map.mp hx
    exact ⟨false, by simp [hNm_ix (d := .lst (iN N)) rfl hN' (hp.mem.mp hk), hNm]⟩)]
  simp only [hNm_map]
  simp [hz, nl1]
  rw [compD_map (h := hNm N) (fun x _ => ⟨_, rfl⟩) (fun x hx => by
    obtain ⟨k, hk, rfl⟩ := List.mem_map.mp hx
    exact ⟨false, by simp [hNm_ix (d := .lst (iN N)) rfl hN' (hq.mem.mp hk), hNm]⟩)]
  simp only [hNm_map]
  simp [hz, nl2]
  generalize hX : F__law_pick _ _ _ = X
  obtain ⟨x, g3, hx, hg3, rfl⟩ := pick_gen hX rfl (by simp) (by simp) hg2
  clear hX
  have hx2 : ∃ m p3 q3, 2 ≤ m ∧ m ≤ 8 ∧ Rw m p3 ∧ Rw m q3 ∧ x = .tup [.tup (iN p3), .tup (iN q3)] := by
    rcases List.mem_cons.mp hx with rfl | hx
    · exact ⟨n2, p2, q2, a2, by omega, hp2, hq2, rfl⟩
    · rw [List.mem_singleton.mp hx]
      exact ⟨n, _, _, h2, h8, nmd_rw hN' hp, nmd_rw hN' hq, rfl⟩
  clear hx
  obtain ⟨m, p3, q3, b2, b8, hp3, hq3, rfl⟩ := hx2
  have hf3 := hg3.flat
  have i0 : idxD (.tup [.tup (iN p3), .tup (iN q3)]) (.int 0) = some (.tup (iN p3)) := rfl
  have i1 : idxD (.tup [.tup (iN p3), .tup (iN q3)]) (.int 1) = some (.tup (iN q3)) := rfl
  have e2 := fun ct g (h : boxFlat g.bx = true) => row_mk ct (a := .tup (iN p3)) (b := .tup (iN q3)) g rfl rfl hp3 hq3 b2 b8 h
  have e3 := fun ct g => shape_eq ct g hp hq hn16
  have e4 := fun ct g => shape_eq ct g hp3 hq3 (by omega)
  simp [i0, i1, e2, hf3, hp3.len, hp.len]
  by_cases hmn : m = n
  · subst hmn
    have hrep : binD .Mult (.lst [.int 0]) (.int (m : Int)) = some (true, .lst (iN (List.replicate m 0))) := by
      have e1 : ltI (2 ^ 63) (m : Int) = true := ltI_iff.mpr (by omega)
      simp only [binD, e1, hz]
      rw [if_pos (by simp; omega)]
      simp [iN]
    simp [hrep, hp.len, -b_mull]
    refine loop_d (C := fun r => ∃ g', Drw g' ∧ ResS.fn r = Res.ok false (.bl true) g') (ds := zipN p p3) (g1 := g3) (fun rest loc g0 => g0 = g3 ∧ ∃ (i : Nat) (f : List Nat) (a b : Option (Bool × D)), rest = (zipN p p3).drop i ∧ loc = [some (false, .box 0), some (false, .tup (iN p)), some (false, .tup (iN q)), some (false, .lst (iN N)), some (false, .tup [.tup (iN p3), .tup (iN q3)]), some (false, rowD p3 q3), some (true, .lst (iN f)), none, some (false, rowD p q), some (false, .tup [.tup (iN p2), .tup (iN q2)]), a, b] ∧ f.length = m ∧ ∀ k, k ∈ p.take i → f[k]? = some (p3.getD (p.idxOf k) 0)) ?_ ?_ ?_ ?_
    · simp [i0, zipA, itemsAll, zipD, zipN]
    · exact ⟨rfl, 0, List.replicate m 0, none, none, rfl, rfl, by simp, fun k hk => by simp at hk⟩
    · rintro x r loc _ ⟨rfl, i, f, a, b, hr, rfl, hfl, hfk⟩
      obtain ⟨c, e, hc, he, rfl, rfl⟩ := zip_step hr
      have hcn : c < m := hp.mem.mp (List.mem_of_getElem? hc)
      have hi : i < p.length := (List.getElem?_eq_some_iff.mp hc).1
      refine ⟨_, rfl, [some (false, .box 0), some (false, .tup (iN p)), some (false, .tup (iN q)), some (false, .lst (iN N)), some (false, .tup [.tup (iN p3), .tup (iN q3)]), some (false, rowD p3 q3), some (true, .lst (iN (f.set c e))), none, some (false, rowD p q), some (false, .tup [.tup (iN p2), .tup (iN q2)]), some (false, .int c), some (false, .int e)], _, by simp [hfl, hcn, iN_set], rfl, i + 1, f.set c e, _, _, rfl, rfl, by simp [hfl], fun k hk => ?_⟩
      have hix : p.idxOf c = i := by
        have h1 := (List.getElem?_eq_some_iff.mp hc).2
        rw [← h1]
        exact List.Nodup.idxOf_getElem hp.nd i hi
      rw [List.take_succ, hc] at hk
      simp only [Option.toList_some, List.mem_append, List.mem_singleton] at hk
      by_cases hkc : k = c
      · subst hkc
        rw [List.getElem?_set_self (by rw [hfl]; exact hcn), hix, List.getD_eq_getElem?_getD, he]
        rfl
      · rw [List.getElem?_set_ne (Ne.symm hkc)]
        exact hfk k (hk.resolve_right hkc)
    · rintro l' _ ⟨rfl, i, f, a, b, hr, rfl, hfl, hfk⟩
      have hend := zip_end hr (by rw [hp.len, hp3.len])
      have hled : f = ledN m p p3 := by
        refine List.ext_getElem? fun k => ?_
        by_cases hk : k < m
        · rw [hfk k (by rw [List.take_of_length_le hend]; exact hp.mem.mpr hk)]
          simp [ledN, hk]
        · rw [List.getElem?_eq_none (by omega), List.getElem?_eq_none (by simp [ledN]; omega)]
      subst hled
      have hL := led_rw hp hp3
      have nl3 : (nmd (ledN m p p3) q).length < 16777216 := by rw [(nmd_rw hL hq).len]; exact hn16
      simp
      rw [compD_map (h := hNm (ledN m p p3)) (fun x _ => ⟨_, rfl⟩) (fun x hx => by
        obtain ⟨k, hk, rfl⟩ := List.mem_map.mp hx
        exact ⟨false, by simp [hNm_ix (d := .lst (iN (ledN m p p3))) rfl hL (hq.mem.mp hk), hNm]⟩)]
      simp only [hNm_map]
      have e7 := fun ct g (h : boxFlat g.bx = true) => renamed_eq ct (d := .lst (iN (ledN m p p3))) g rfl hp hq hL h2 h8 h
      rw [led_p hp hp3] at e7
      have hlk := like_iff hp hq hp3 hq3
      have q1 : ∀ ct, (Γ__law_like_right ct).eqs.contains "Row" = true := fun ct => by kernel_rfl
      have q2' : ∀ ct, (Γ__law_like_right ct).fn (("Row" : Str) ++ (".__eq__" : Str)) = F_RowD_eqD := fun ct => by kernel_rfl
      have q3' := fun neg loc a b c d g => eqi_row (Γ := Γ__law_like_right ct) (neg := neg) (loc := loc) (p := a) (q := b) (p2 := c) (q2 := d) (g := g) (q1 ct) (q2' ct)
      by_cases hs : shp p q = shp p3 q3
      · have hs2 := hlk.mpr hs
        have nl4 : q3.length < 16777216 := by rw [hq3.len]; exact hn16
        simp [hz, nl3, nl4, i1, e3, e4, e7, hf3, q3', hs, hs2]
        exact hg3
      · have hs2 : ¬ nmd (ledN m p p3) q = q3 := fun h => hs (hlk.mp h)
        simp [hz, nl3, i1, e3, e4, e7, hf3, q3', hs, hs2]
        exact hg3
  · have hmn' : ¬ ((m : Int) = n) := by omega
    have hne : ¬ shp p3 q3 = shp p q := fun h => by
      have := congrArg List.length h
      simp [shp, hq3.len, hq.len] at this
      exact hmn this
    simp [hmn, hmn', e3, e4, hne]
    exact hg3
end K03
end
section
set_option Elab.async false
set_option linter.all false
set_option maxRecDepth 100000
set_option maxHeartbeats 2000000
namespace K03
open PySem PyD
def isTO : TG' → Bool
  | .p _ _ => false
  | _ => true
theorem storeG_ind {Γ Γ2 : Env'} : ∀ (ts : List TG') (ds : List (Bool × D)) (loc : PyD.Loc) (g : G), ts.all isTO = true → storeG Γ ts ds loc g = storeG Γ2 ts ds loc g
  | [], ds, loc, g, _ => by cases ds <;> rfl
  | .p _ _ :: _, _, _, _, h => by simp [isTO] at h
  | .o i :: ts, [], loc, g, h => rfl
  | .t t :: ts, [], loc, g, h => rfl
  | .o i :: ts, (own, d) :: ds, loc, g, h => by
    rw [sG_o, sG_o]
    exact storeG_ind ts ds _ g (by simpa [isTO] using h)
  | .t t :: ts, (true, d) :: ds, loc, g, h => rfl
  | .t t :: ts, (false, d) :: ds, loc, g, h => by
    rw [sG_t, sG_t]
    cases bindT t d loc with
    | none => rfl
    | some l => exact storeG_ind ts ds l g (by simpa [isTO] using h)
noncomputable def T_mixed : List D → G → Res := F__law_mixed noClo
noncomputable def T_take : List D → G → Res := F__law_take noClo
noncomputable def T_pick : List D → G → Res := F__law_pick noClo
theorem ind_mixed (ct : CloT) : F__law_mixed ct = T_mixed := by
  funext ds g
  unfold T_mixed F__law_mixed Def.run f__law_mixed
  have h : ∀ ds loc g, storeG (Γ__law_mixed ct) [TG'.t (T.s 2), TG'.t (T.s 3)] ds loc g = storeG (Γ__law_mixed noClo) [TG'.t (T.s 2), TG'.t (T.s 3)] ds loc g := fun ds loc g => storeG_ind _ _ _ _ rfl
  simp [x_loop, h]
theorem ind_take (ct : CloT) : F__law_take ct = T_take := by
  funext ds g
  unfold T_take F__law_take Def.run f__law_take
  simp [ind_mixed]
theorem ind_pick (ct : CloT) : F__law_pick ct = T_pick := by
  funext ds g
  unfold T_pick F__law_pick Def.run f__law_pick
  simp [ind_take]
end K03
end
section
set_option Elab.async false
set_option linter.all false
set_option maxRecDepth 100000
set_option maxHeartbeats 4000000
namespace K03
open PySem PyD
theorem pickL_get {is : List Nat} {loc : PyD.Loc} {i : Nat} {d : D} (hi : i ∈ is) (h : loc[i]? = some (some (false, d))) (hp : plainD d = true) : (pickL is loc)[i]? = some (some (false, d)) := by
  have hl : i < loc.length := (List.getElem?_eq_some_iff.mp h).1
  unfold pickL
  rw [List.getElem?_map, List.getElem?_range hl]
  simp only [Option.map_some]
  rw [if_pos (by simpa using hi), h]
  simp [hp]
section
variable (ct : CloT) (κ : Nat → List Nat)
@[simp] theorem rf_1 : (Γ__law_refused ct κ).mkc "Row" = mkR "Row" F_RowD_initD := by kernel_rfl
@[simp] theorem rf_2 : (Γ__law_refused ct κ).fn "_law_is_shape" = F__law_is_shape := by kernel_rfl
@[simp] theorem rf_3 : (Γ__law_refused ct κ).fn "_law_says" = F__law_says := by kernel_rfl
@[simp] theorem rf_4 : (Γ__law_refused ct κ).fn "is_shape" = F_is_shape := by kernel_rfl
@[simp] theorem rf_5 : (Γ__law_refused ct κ).fn "_law_word" = F__law_word := by kernel_rfl
@[simp] theorem rf_6 : (Γ__law_refused ct κ).fn "_law_caught" = F__law_caught := by kernel_rfl
@[simp] theorem rf_7 : (Γ__law_refused ct κ).fn "_law_pick" = F__law_pick := by kernel_rfl
@[simp] theorem rb_1 : (B__law_refused ct κ).fn "row_of_shape" = F_row_of_shape := by kernel_rfl
@[simp] theorem rb_2 : (B__law_refused ct κ).fn "shape_of" = F_shape_of := by kernel_rfl
@[simp] theorem rb_3 : (B__law_refused ct κ).fn "renamed" = F_renamed := by kernel_rfl
@[simp] theorem rb_4 : (B__law_refused ct κ).fn "turned_over" = F_turned_over := by kernel_rfl
@[simp] theorem rb_5 : (B__law_refused ct κ).fn "turned_about" = F_turned_about := by kernel_rfl
theorem rf_mine : (Γ__law_refused ct κ).mine = [0, 1, 2, 3, 4, 5] := rfl
theorem rf_caps : (Γ__law_refused ct κ).caps = κ := rfl
theorem sub_own {Γ : Env'} {loc : PyD.Loc} {id : Nat} {cs : List Nat} {g : G} (h1 : Γ.mine.contains id = true) (h2 : cs = Γ.caps id) : Γ.sub loc id cs [] g = Γ.lamD id (pickL (Γ.capS id) loc) [] g := by
  unfold Env'.sub
  rw [if_pos (by rw [h1, h2]; simp)]
theorem lam0 {loc : PyD.Loc} {d : D} {g : G} (h : loc[4]? = some (some (false, d))) (hp : plainD d = true) (ht : (tyD d).isSome = true) (hl : ∀ l, d = .tup l → ∀ x ∈ l, (tyD x).isSome = true) (hb : shapeB d = false) : (Γ__law_refused ct κ).sub loc 0 (κ 0) [] g = .ex "BadShape" [] g := by
  rw [sub_own (by rw [rf_mine]; rfl) (by rw [rf_caps])]
  have e := pickL_get (is := [4]) (by simp) h hp
  show den (B__law_refused ct κ).nc (.call "row_of_shape" [(.v 4)] []) (pickL [4] loc) g = _
  simp [e, rowof_no _ _ _ ht hl hb]
theorem lam1 {loc : PyD.Loc} {d : D} {g : G} (h : loc[5]? = some (some (false, d))) (hp : plainD d = true) (ht : (tyD d).isSome = true) : (Γ__law_refused ct κ).sub loc 1 (κ 1) [] g = .ex "BadRow" [("part", .non)] g := by
  rw [sub_own (by rw [rf_mine]; rfl) (by rw [rf_caps])]
  have e := pickL_get (is := [5]) (by simp) h hp
  show den (B__law_refused ct κ).nc (.call "shape_of" [(.v 5)] []) (pickL [5] loc) g = _
  simp [e, shape_no _ _ _ ht]
theorem lam2 {loc : PyD.Loc} {d d2 : D} {g : G} (h : loc[5]? = some (some (false, d))) (hp : plainD d = true) (h2 : loc[6]? = some (some (false, d2))) (hp2 : plainD d2 = true) (ht : (tyD d).isSome = true) : (Γ__law_refused ct κ).sub loc 2 (κ 2) [] g = .ex "BadRow" [("part", .non)] g := by
  rw [sub_own (by rw [rf_mine]; rfl) (by rw [rf_caps])]
  have e := pickL_get (is := [5, 6]) (by simp) h hp
  have e2 := pickL_get (is := [5, 6]) (by simp) h2 hp2
  show den (B__law_refused ct κ).nc (.call "renamed" [(.v 5), (.v 6)] []) (pickL [5, 6] loc) g = _
  simp [e, e2, renamed_no _ _ _ _ ht]
theorem lam3 {loc : PyD.Loc} {d : D} {g : G} (h : loc[5]? = some (some (false, d))) (hp : plainD d = true) (ht : (tyD d).isSome = true) : (Γ__law_refused ct κ).sub loc 3 (κ 3) [] g = .ex "BadRow" [("part", .non)] g := by
  rw [sub_own (by rw [rf_mine]; rfl) (by rw [rf_caps])]
  have e := pickL_get (is := [5]) (by simp) h hp
  show den (B__law_refused ct κ).nc (.call "turned_over" [(.v 5)] []) (pickL [5] loc) g = _
  simp [e, over_no _ _ _ ht]
theorem lam4 {loc : PyD.Loc} {d : D} {g : G} (h : loc[5]? = some (some (false, d))) (hp : plainD d = true) (ht : (tyD d).isSome = true) : (Γ__law_refused ct κ).sub loc 4 (κ 4) [] g = .ex "BadRow" [("part", .non)] g := by
  rw [sub_own (by rw [rf_mine]; rfl) (by rw [rf_caps])]
  have e := pickL_get (is := [5]) (by simp) h hp
  show den (B__law_refused ct κ).nc (.call "turned_about" [(.v 5)] []) (pickL [5] loc) g = _
  simp [e, about_no _ _ _ ht]
/-- no names of letters -/
def BadN (n : Nat) (d : D) : Prop := (tyD d).isSome = true ∧ plainD d = true ∧ (seqD d = none ∨ ∃ l, seqD d = some l ∧ (∀ x ∈ l, (tyD x).isSome = true) ∧ l.length < 16777216 ∧ eachB l n = false)
theorem lam5 {loc : PyD.Loc} {n : Nat} {p q : List Nat} {d : D} {g : G} (h : loc[9]? = some (some (false, rowD p q))) (hr : plainD (rowD p q) = true) (h2 : loc[6]? = some (some (false, d))) (hp : Rw n p) (hq : Rw n q) (hn : n < 16777216) (hd : BadN n d) : (Γ__law_refused ct κ).sub loc 5 (κ 5) [] g = .ex "BadLetters" [] g := by
  rw [sub_own (by rw [rf_mine]; rfl) (by rw [rf_caps])]
  have e := pickL_get (is := [9, 6]) (by simp) h hr
  have e2 := pickL_get (is := [9, 6]) (by simp) h2 hd.2.1
  show den (B__law_refused ct κ).nc (.call "renamed" [(.v 9), (.v 6)] []) (pickL [9, 6] loc) g = _
  simp [e, e2, renamed_bad _ g hp hq hd.1 hn hd.2.2]
end
@[simp] theorem plain_iN (l : List Nat) : plainDs (iN l) = true := by induction l with
  | nil => rfl
  | cons a l ih => simp [plainDs, plainD, ih]
theorem plain_row (p q : List Nat) : plainD (rowD p q) = true := by simp [rowD, plainD, plainDF]
theorem each_len {l : List D} {n : Nat} (h : l.length ≠ n) : eachB l n = false := by
  simp only [eachB, decide_eq_false_iff_not]
  rintro ⟨p, hp, rfl⟩
  exact h (by rw [iN_length, hp.length_eq, List.length_range])
theorem each_no {l : List D} {n : Nat} {x : D} (hx : x ∈ l) (h : isI x = false) : eachB l n = false := by
  simp only [eachB, decide_eq_false_iff_not]
  rintro ⟨p, hp, rfl⟩
  obtain ⟨k, _, rfl⟩ := List.mem_map.mp hx
  cases h
theorem each_iN {l : List Nat} {n : Nat} (h : ¬ Rw n l) : eachB (iN l) n = false := by
  simp only [eachB, decide_eq_false_iff_not]
  rintro ⟨p, hp, e⟩
  exact h (by rw [iN_eq.mp e]; exact hp)
end K03
end
section
set_option Elab.async false
set_option linter.all false
set_option maxRecDepth 100000
set_option maxHeartbeats 4000000
namespace K03
open PySem PyD
theorem pickT_gen {d : D} {l : List D} {g : G} {X : Res} (h : T_pick [.box 0, d] g = X) (hd : d.items = some l) (h0 : l ≠ []) (hl : l.length < 2 ^ 30) (hg : Drw g) : ∃ (x : D) (g' : G), x ∈ l ∧ Drw g' ∧ X = .ok false x g' := pick_gen (ct := noClo) h hd h0 hl hg
/-- a thing to be asked -/
def Thing (d : D) : Prop := (tyD d).isSome = true ∧ plainD d = true ∧ ∀ l, d = .tup l → ∀ x ∈ l, (tyD x).isSome = true
theorem caught_lam {ct : CloT} {κ : Nat → List Nat} {loc : PyD.Loc} {id : Nat} {g : G} {c : Str} {fs : List (Str × D)} (h : (Γ__law_refused ct κ).sub loc id (κ id) [] g = .ex c fs g) (hc : errL.contains c = true) : F__law_caught ((Γ__law_refused ct κ).sub loc) [.clo id (κ id)] g = .ok false (.exc c fs) g := caught_ex _ h hc
theorem er_1 : errL.contains "BadShape" = true := by kernel_rfl
theorem er_2 : errL.contains "BadRow" = true := by kernel_rfl
theorem er_3 : errL.contains "BadLetters" = true := by kernel_rfl
def hS : D → D := fun d => match d with | .int i => .str (Str.ofString (toString i)) | d => d
def oddL (n : Nat) (p : List Nat) : List D := [.non, .int 5, .str "01", .tup [], .tup [.int 0], .lst (iN p), .tup (iN (List.range 9)), .tup (iN p.tail ++ iN (p.tail.take 1)), .tup (iN (p.take (n - 1)) ++ [.int n]), .tup (iN (p.take (n - 1)) ++ [.non]), .tup [.bl true, .bl false], .tup [.bl false, .bl true], .tup (iN p)]
theorem odd_thing {n : Nat} {p : List Nat} : ∀ x ∈ oddL n p ++ [D.tup ((iN p).map hS)], Thing x := by
  have pl : ∀ a b : List D, plainDs (a ++ b) = (plainDs a && plainDs b) := fun a b => by
    induction a with
    | nil => rfl
    | cons x a ih => simp [plainDs, ih, Bool.and_assoc]
  have ps : ∀ l : List Nat, plainDs ((iN l).map hS) = true := fun l => by
    induction l with
    | nil => rfl
    | cons x a ih => simp [plainDs, plainD, hS, ih]
  have ts : ∀ (l : List Nat) x, x ∈ (iN l).map hS → (tyD x).isSome = true := fun l x hx => by
    obtain ⟨y, hy, rfl⟩ := List.mem_map.mp hx
    obtain ⟨k, _, rfl⟩ := List.mem_map.mp hy
    rfl
  have tt : ∀ l : List D, plainDs l = true → (∀ x ∈ l, (tyD x).isSome = true) → Thing (.tup l) := fun l h1 h2 => ⟨rfl, by simpa [plainD] using h1, fun l' e => by cases e; exact h2⟩
  intro x hx
  simp only [oddL, List.cons_append, List.nil_append, List.mem_cons, List.not_mem_nil, or_false] at hx
  rcases hx with rfl | rfl | rfl | rfl | rfl | rfl | rfl | rfl | rfl | rfl | rfl | rfl | rfl | rfl
  · exact ⟨rfl, rfl, fun l e => by cases e⟩
  · exact ⟨rfl, rfl, fun l e => by cases e⟩
  · exact ⟨rfl, rfl, fun l e => by cases e⟩
  · exact tt _ rfl (by simp)
  · exact tt _ rfl (by simp [tyD])
  · exact ⟨rfl, by simp [plainD], fun l e => by cases e⟩
  · exact tt _ (by simp) (ty_iN _)
  · refine tt _ (by simp [pl]) fun x hx => ?_
    rcases List.mem_append.mp hx with h | h <;> exact ty_iN _ x h
  · refine tt _ (by simp [pl, plainDs, plainD]) fun x hx => ?_
    rcases List.mem_append.mp hx with h | h
    · exact ty_iN _ x h
    · rw [List.mem_singleton.mp h]; rfl
  · refine tt _ (by simp [pl, plainDs, plainD]) fun x hx => ?_
    rcases List.mem_append.mp hx with h | h
    · exact ty_iN _ x h
    · rw [List.mem_singleton.mp h]; rfl
  · exact tt _ rfl (by simp [tyD])
  · exact tt _ rfl (by simp [tyD])
  · exact tt _ (by simp) (ty_iN _)
  · exact tt _ (ps p) (ts p)
theorem refused_run (ct : CloT) {n : Nat} {p q : List Nat} (g : G) (hp : Rw n p) (hq : Rw n q) (h2 : 2 ≤ n) (h8 : n ≤ 8) (hg : Drw g) : ∃ g', Drw g' ∧ ∀ κ, f__law_refused.run (Γ__law_refused ct κ) [.box 0, .tup (iN p), .tup (iN q)] g = .ok false (.bl true) g' := by
  have hz : sizeLine = 16777216 := sizeLine_eq
  have hn16 : n < 16777216 := by omega
  have hf := hg.flat
  have e1 := fun ct g (h : boxFlat g.bx = true) => row_mk ct (a := .tup (iN p)) (b := .tup (iN q)) g rfl rfl hp hq h2 h8 h
  generalize hX : T_pick [.box 0, .lst [.non, .int 5, .tup [.tup (iN p), .tup (iN q)], .str "row"]] g = X
  obtain ⟨x, g1, hx, hg1, rfl⟩ := pickT_gen hX rfl (by simp) (by simp) hg
  have hx2 : (tyD x).isSome = true ∧ plainD x = true := by
    simp only [List.mem_cons, List.not_mem_nil, or_false] at hx
    rcases hx with rfl | rfl | rfl | rfl <;> exact ⟨rfl, by simp [plainD, plainDs]⟩
  generalize hY : T_pick [.box 0, .lst [.non, .int 5, .str "0", .lst (iN (List.range (n + 1))), .lst (iN (List.range (n - 1))), .lst (List.replicate n (.int 0)), .lst (List.replicate n (.bl true)), .lst (List.replicate n .non), .dic [], .tup ((List.range n).map fun k : Nat => D.int (1 + (k : Int)))]] g1 = Y
  obtain ⟨y, g2, hy, hg2, rfl⟩ := pickT_gen hY rfl (by simp) (by simp) hg1
  have hy2 : BadN n y := by
    simp only [List.mem_cons, List.not_mem_nil, or_false] at hy
    have hrep : ∀ (d : D), isI d = false → (tyD d).isSome = true → plainD d = true → BadN n (.lst (List.replicate n d)) := fun d h1 h3 h4 => by
      refine ⟨rfl, ?_, .inr ⟨_, rfl, fun x hx => by rw [List.eq_of_mem_replicate hx]; exact h3, by simp; omega, each_no (x := d) (by simp; omega) h1⟩⟩
      have : ∀ m, plainDs (List.replicate m d) = true := fun m => by
        induction m with
        | zero => rfl
        | succ m ih => simp [List.replicate_succ, plainDs, h4, ih]
      simp [plainD, this]
    rcases hy with rfl | rfl | rfl | rfl | rfl | rfl | rfl | rfl | rfl | rfl
    · exact ⟨rfl, rfl, .inl rfl⟩
    · exact ⟨rfl, rfl, .inl rfl⟩
    · exact ⟨rfl, rfl, .inl rfl⟩
    · exact ⟨rfl, by simp [plainD], .inr ⟨_, rfl, ty_iN _, by simp; omega, each_len (by simp)⟩⟩
    · exact ⟨rfl, by simp [plainD], .inr ⟨_, rfl, ty_iN _, by simp; omega, each_len (by simp; omega)⟩⟩
    · have : List.replicate n (D.int 0) = iN (List.replicate n 0) := by simp [iN]
      rw [this]
      refine ⟨rfl, by simp [plainD], .inr ⟨_, rfl, ty_iN _, by simp; omega, each_iN fun h => ?_⟩⟩
      have := h.mem (x := 1)
      simp at this
      omega
    · exact hrep _ rfl rfl rfl
    · exact hrep _ rfl rfl rfl
    · exact ⟨rfl, rfl, .inl rfl⟩
    · have : ((List.range n).map fun k : Nat => D.int (1 + (k : Int))) = iN ((List.range n).map fun k => 1 + k) := by
        unfold iN
        rw [List.map_map]
        refine List.map_congr_left fun k _ => ?_
        simp
      rw [this]
      refine ⟨rfl, by simp [plainD], .inr ⟨_, rfl, ty_iN _, by simp; omega, each_iN fun h => ?_⟩⟩
      have := h.mem (x := 0)
      simp at this
      omega
  refine ⟨g2, hg2, fun κ => ?_⟩
  unfold Def.run f__law_refused
  simp only [startL]
  have hl0 := hp.len
  have r9 := rngD_nat (n := 9) (by omega)
  have s1 : sliceL (iN p) (some (1 : Int)) none = iN (p.drop 1) := by
    rw [← iN_drop]; exact sl_lo (k := 1) _ (by rw [iN_length, hl0]; omega)
  have s2 : sliceL (iN p) (some (1 : Int)) (some (2 : Int)) = iN ((p.drop 1).take 1) := by
    rw [← iN_take, ← iN_drop]; exact sl_lohi (j := 1) (k := 2) _ (by rw [iN_length, hl0]; omega) (by omega)
  have s3 : sliceL (iN p) none (some (-1 : Int)) = iN (p.take (n - 1)) := by
    rw [← iN_take, sl_m1 _ (by rw [iN_length, hl0]; omega), iN_length, hl0]
  rw [show ((9 : Nat) : Int) = 9 from rfl] at r9
  have c1 : n - 1 + min 1 (n - 1) ≤ 16777216 := by omega
  have c2 : n ≤ 16777216 := by omega
  have c3 : n < 16777216 := by omega
  simp [e1, hf, hl0, hz, r9, s1, s2, s3, c1, c2]
  refine loop_d (C := fun r => ResS.fn r = Res.ok false (.bl true) g2) (ds := oddL n p ++ [D.tup ((iN p).map hS)]) (g1 := g) (fun rest loc g0 => g0 = g ∧ (∀ x ∈ rest, Thing x) ∧ ∃ (o a b : Option (Bool × D)), loc = [some (false, .box 0), some (false, .tup (iN p)), some (false, .tup (iN q)), o, a, none, none, none, none, some (false, rowD p q), some (false, .int n), b, none]) ?_ ?_ ?_ ?_
  · simp [oddL]
    rw [compD_map (h := hS) (fun x _ => ⟨_, rfl⟩) (fun x hx => by
      obtain ⟨k, hk, rfl⟩ := List.mem_map.mp hx
      have hk2 : k.log2 < 1920 := Nat.lt_of_le_of_lt (Nat.log2_le_self k) (by have := hp.mem.mp hk; omega)
      exact ⟨false, by simp [hS, hk2]⟩)]
    simp [hz, hl0, c3]
  · exact ⟨rfl, odd_thing, _, _, _, rfl⟩
  · rintro x' r loc _ ⟨rfl, hth, o, a, b, rfl⟩
    obtain ⟨t1, t2, t3⟩ := hth x' List.mem_cons_self
    have hr : ∀ y ∈ r, Thing y := fun y hy => hth y (List.mem_cons_of_mem _ hy)
    refine ⟨_, rfl, ?_⟩
    have f1 := fun ct g => lishape_eq ct x' g t1 t3
    have f2 := fun ct g => isshape_eq ct x' g t1 t3
    have f3 : eqD (.str "shape") (.str "shape") = some true := eqD_self (by decide +kernel)
    cases hb : shapeB x' with
    | true =>
      refine ⟨[some (false, .box 0), some (false, .tup (iN p)), some (false, .tup (iN q)), o, some (false, x'), none, none, none, none, some (false, rowD p q), some (false, .int n), some (false, .bl true), none], _, ?_, rfl, hr, _, _, _, rfl⟩
      simp [f1, f2, hb, says_eq, D.isBl]
    | false =>
      refine ⟨[some (false, .box 0), some (false, .tup (iN p)), some (false, .tup (iN q)), o, some (false, x'), none, none, none, none, some (false, rowD p q), some (false, .int n), some (false, .bl false), none], _, ?_, rfl, hr, _, _, _, rfl⟩
      have f4 := fun loc g (h : loc[4]? = some (some (false, x'))) => caught_lam (lam0 ct κ (loc := loc) (g := g) h t2 t1 t3 hb) er_1
      simp [f1, f2, hb, says_eq, D.isBl, rf_mine, rf_caps, f4, word_shape, f3]
  · rintro l' g0 ⟨rfl, _, o, a, b, rfl⟩
    have d1 : rngD [.int ((n : Int) + 1)] = some (iN (List.range (n + 1))) := by
      have := rngD_nat (n := n + 1) (by omega)
      push_cast at this
      exact this
    have d2 : rngD [.int ((n : Int) - 1)] = some (iN (List.range (n - 1))) := by
      have := rngD_nat (n := n - 1) (by omega)
      rw [show ((n - 1 : Nat) : Int) = (n : Int) - 1 by omega] at this
      exact this
    have d3 : rngD [.int 1, .int ((n : Int) + 1)] = some ((List.range n).map fun k : Nat => D.int (1 + (k : Int))) := by
      have k1 : small62 1 = true := by decide
      have k2 : small62 ((n : Int) + 1) = true := small62_iff.mpr (by omega)
      simp only [rngD, k1, k2, Bool.and_self, if_true]
      rw [show ((n : Int) + 1 - 1).toNat = n by omega]
    have d4 : ∀ d, binD .Mult (.lst [d]) (.int (n : Int)) = some (true, .lst (List.replicate n d)) := fun d => by
      have k1 : ltI (2 ^ 63) (n : Int) = true := ltI_iff.mpr (by omega)
      simp only [binD, k1, hz]
      rw [if_pos (by simp; omega)]
      simp
    have d5 : binD .Mult (.lst [.str "row None"]) (.int 4) = some (true, .lst (List.replicate 4 (.str "row None"))) := by
      have k1 : ltI (2 ^ 63) 4 = true := by decide
      simp only [binD, k1, hz]
      rw [if_pos (by simp)]
      simp
    have d6 : ltI 9223372036854775808 4 = true := by decide
    have c4 : n - 1 ≤ 16777216 := by omega
    have c5 : n + 1 ≤ 16777216 := by omega
    have f5 := fun loc g (h : loc[5]? = some (some (false, x))) => caught_lam (lam1 ct κ (loc := loc) (g := g) h hx2.2 hx2.1) er_2
    have f6 := fun loc g (h : loc[5]? = some (some (false, x))) (h' : loc[6]? = some (some (false, y))) => caught_lam (lam2 ct κ (loc := loc) (g := g) h hx2.2 h' hy2.2.1 hx2.1) er_2
    have f7 := fun loc g (h : loc[5]? = some (some (false, x))) => caught_lam (lam3 ct κ (loc := loc) (g := g) h hx2.2 hx2.1) er_2
    have f8 := fun loc g (h : loc[5]? = some (some (false, x))) => caught_lam (lam4 ct κ (loc := loc) (g := g) h hx2.2 hx2.1) er_2
    have f9 := fun loc g (h : loc[9]? = some (some (false, rowD p q))) (h' : loc[6]? = some (some (false, y))) => caught_lam (lam5 ct κ (loc := loc) (g := g) h (plain_row p q) h' hp hq hn16 hy2) er_3
    have q1 : eqD (.lst [.str "row None", .str "row None", .str "row None", .str "row None", .str "letters"]) (.lst [.str "row None", .str "row None", .str "row None", .str "row None", .str "letters"]) = some true := eqD_self (by decide +kernel)
    simp [hz, ind_pick, hX, d1, d2, d3, d4, d5, hY, c2, c4, c5, -b_mull]
    simp [hz, ind_pick, hX, d1, d2, d3, d4, d5, hY, c2, c4, c5, -b_mull, rf_mine, rf_caps, x_loop, lp_cons, lp_nil, f5, f6, f7, f8, f9, word_row, word_letters, q1, d6]
theorem refused_eq (ct : CloT) {n : Nat} {p q : List Nat} (g : G) (hp : Rw n p) (hq : Rw n q) (h2 : 2 ≤ n) (h8 : n ≤ 8) (hg : Drw g) : ∃ g', Drw g' ∧ F__law_refused ct [.box 0, .tup (iN p), .tup (iN q)] g = .ok false (.bl true) g' := by
  obtain ⟨g', h1, h2⟩ := refused_run ct g hp hq h2 h8 hg
  exact ⟨g', h1, runL_eq h2⟩
@[simp] theorem lw_1 (ct : CloT) : (Γ_law ct).fn "_law_begun" = F__law_begun := by kernel_rfl
@[simp] theorem lw_2 (ct : CloT) : (Γ_law ct).fn "_law_pair" = F__law_pair := by kernel_rfl
@[simp] theorem lw_3 (ct : CloT) : (Γ_law ct).fn "_law_right" = F__law_right := by kernel_rfl
@[simp] theorem lw_4 (ct : CloT) : (Γ_law ct).fn "_law_like_right" = F__law_like_right := by kernel_rfl
@[simp] theorem lw_5 (ct : CloT) : (Γ_law ct).fn "_law_refused" = F__law_refused := by kernel_rfl
@[simp] theorem lw_6 (ct : CloT) : (Γ_law ct).fn "shape_of" = F_shape_of := by kernel_rfl
@[simp] theorem lw_7 (ct : CloT) : (Γ_law ct).mkc "Row" = mkR "Row" F_RowD_initD := by kernel_rfl
theorem law_eq (ns : List Int) (h : ns.length ≤ 63) : ∃ g, F_law noClo [.scr ns] ⟨[]⟩ = .ok false (.bl true) g := by
  have hz : sizeLine = 16777216 := sizeLine_eq
  unfold F_law Def.run f_law
  simp only [startL]
  obtain ⟨g1, hg1, e1⟩ := begun_eq ((Γ_law noClo).sub [some (false, .scr ns), none, none, none, none]) ns h
  have hrng : rngD [.int (3 + min (ns.length : Int) 9)] = some (iN (List.range (3 + min ns.length 9))) := by
    have := rngD_nat (n := 3 + min ns.length 9) (by omega)
    rw [show ((3 + min ns.length 9 : Nat) : Int) = 3 + min (ns.length : Int) 9 by omega] at this
    exact this
  simp [e1]
  refine loop_d (C := fun r => ∃ g, ResS.fn r = Res.ok false (.bl true) g) (ds := iN (List.range (3 + min ns.length 9))) (g1 := g1) (fun rest loc g0 => Drw g0 ∧ ∃ (a b c : Option (Bool × D)), loc = [some (false, .scr ns), some (false, .box 0), a, b, c]) ?_ ?_ ?_ ?_
  · simp [hrng]
  · exact ⟨hg1, _, _, _, rfl⟩
  · rintro x r loc g ⟨hg, a, b, c, rfl⟩
    refine ⟨_, rfl, ?_⟩
    simp
    generalize hX : F__law_pair _ _ _ = X
    obtain ⟨n, p, q, g2, h2, h8, hp, hq, hg2, rfl⟩ := pair_gen (most := 8) hX (by omega) (by omega) hg
    simp
    generalize hA : F__law_right _ _ _ = A
    obtain ⟨g3, hg3, e3⟩ := right_eq _ g2 hp hq h2 h8 hg2
    rw [e3] at hA
    subst hA
    simp
    generalize hB : F__law_like_right _ _ _ = B
    obtain ⟨g4, hg4, e4⟩ := like_eq _ g3 hp hq h2 h8 hg3
    rw [e4] at hB
    subst hB
    simp
    generalize hC : F__law_refused _ _ _ = C'
    obtain ⟨g5, hg5, e5⟩ := refused_eq _ g4 hp hq h2 h8 hg4
    rw [e5] at hC
    subst hC
    simp
    exact ⟨_, _, ⟨rfl, rfl⟩, hg5, _, _, _, rfl⟩
  · rintro l' g ⟨hg, a, b, c, rfl⟩
    have hp : Rw 3 [2, 0, 1] := Rw.of (by decide) rfl (by decide)
    have hq : Rw 3 [1, 2, 0] := Rw.of (by decide) rfl (by decide)
    have e1 := fun ct => row_mk ct (a := .tup [.int 2, .int 0, .int 1]) (b := .tup [.int 1, .int 2, .int 0]) g rfl rfl hp hq (by omega) (by omega) hg.flat
    have e2 := fun ct g => shape_eq ct g hp hq (by omega)
    have e3 : shp [2, 0, 1] [1, 2, 0] = [2, 0, 1] := by decide
    rw [e3] at e2
    have e4 : eqD (.tup [.int 2, .int 0, .int 1]) (.tup [.int 2, .int 0, .int 1]) = some true := eqD_self (by decide)
    exact ⟨g, by simp [hz, e1, e2, e4]⟩
end K03
end
section
set_option Elab.async false
set_option linter.all false
set_option maxRecDepth 100000
set_option maxHeartbeats 0
namespace K03
open PySem PySem.Spec PyProof.Rows L2 He PyD
abbrev rowO : PySem.W.OpenRow := PySem.W.OpenLaw.row PySem.Challenge.rw_roomsled_k03_whole_shapes_and_turned_row
abbrev hk : PySem.W.Hook := hookP fileN 5 lamN faL fnL
def ob (s : PySem.W.SharedT) : AlP := obsP fileN 5 lamN faL fnL (HandSHeadRun.getT s)
theorem ob_eq (s : PySem.W.SharedT) : ob s = hk.obs s.abs := obsP_eq (HandSHeadRun.getT_eq s)
def loose0 : List PySem.Str := ["RowError", "BadRow", "BadShape", "BadLetters", "is_number", "is_between", "is_list", "LEAST_LETTERS", "MOST_LETTERS", "has_each", "Row", "need_row", "parts_told", "spots_told", "is_whole", "is_shape", "need_shape", "told_shape", "shape_of", "row_of_shape", "renamed", "turned_over", "turned_about", "_law_begun", "_law_mixed", "_law_take", "_law_pick", "_law_shuffled", "_law_caught", "_law_says"]
def loose1 : List PySem.Str := ["_law_is_number", "_law_pair", "_law_shape", "_law_word", "_law_is_shape", "_law_pair_of", "_law_right", "_law_like_right", "_law_refused"]
def looseN : List PySem.Str := loose0 ++ loose1
theorem run (w : World) : HandSHeadRun.RunEq rowO (PySem.W.view rowO.prog [45]) hk ob 6000 looseN w := by
  intro os
  kernel_rfl
end K03
open PySem PySem.W PySem.Calls PyProof.Rows in
theorem K03.holds (spec : ∀ ns : List Int, ns.length ≤ 63 → (∀ z ∈ ns, Builtin.Int.intBits z ≤ 1048576) → ∃ own g, K03.F_law PyD.noClo [.scr ns] ⟨[]⟩ = .ok own (.bl true) g) : PySem.Challenge.rw_roomsled_k03_whole_shapes_and_turned_row.Holds := by
  w_on; o_law
  refine HandSHeadRun.head_any (r := OpenLaw.row PySem.Challenge.rw_roomsled_k03_whole_shapes_and_turned_row) (q := view (OpenLaw.row PySem.Challenge.rw_roomsled_k03_whole_shapes_and_turned_row).prog [45]) (H := K03.hk) (ob := K03.ob) (M := 6000) (loose := K03.looseN) (d := HandSHeadRun.topDef (OpenLaw.row PySem.Challenge.rw_roomsled_k03_whole_shapes_and_turned_row).prog 45) (kwd := []) K03.ob_eq
    (by kernel_rfl) (fun s => by kernel_rfl) K03.run (by kernel_rfl) (by kernel_rfl) (by kernel_rfl) (by rfl) (by first | assumption | decide +kernel) (by decide +kernel) ⟨rfl, rfl, rfl, rfl, rfl, by decide +kernel⟩ ?hw ?hc
  case hw => w_witness2
  case hc =>
    refine PyD.law_walk (l := PySem.Challenge.rw_roomsled_k03_whole_shapes_and_turned_row) (n := 63) rfl (by decide) (by kernel_rfl) fun w mg fa h Y G hmg0 => ?_
    obtain ⟨K, tt, Sy⟩ := Y
    have hmg : mg ("law" : PySem.Str) = some (.ref fa) := by
      have e : (HandSHeadRun.topDef (OpenLaw.row PySem.Challenge.rw_roomsled_k03_whole_shapes_and_turned_row).prog 45).name = ("law" : PySem.Str) := by kernel_rfl
      rw [← e]
      exact hmg0
    exact ⟨K, tt, Sy.kin, Sy.tab, Sy.off, Sy.code, fun ns hl hb => PyD.law_of Sy G (by kernel_rfl) (by kernel_rfl) hmg (fun R T _ F => K03.ok_law F) ⟨rfl, by decide, by decide⟩ (spec ns hl hb)⟩
end
theorem PySem.Challenge.cw_roomsled_k03_whole_shapes_and_turned_row_holds : PySem.Challenge.rw_roomsled_k03_whole_shapes_and_turned_row.Holds := by
  exact K03.holds fun ns hl _ => let ⟨g, e⟩ := K03.law_eq ns hl; ⟨false, g, e⟩
